import Derived.Test.YtamljjfhkolflaaC15zx0
import Derived.Test.YtamljjfhkolflaaC15zAl
namespace Go.Proofs.Ytamljjfhkolflaa.C15
open Go.RowKit Go.Proofs.YtamljjfhkolflaaW.PrintWords Go.Proofs.YtamljjfhkolflaaW.PrintLast Go.Proofs.YtamljjfhkolflaaW.PrintMore Go.Proofs.Ytamljjfhkolflaa.H
attribute [local go_sem] max2_int min2_int max_two min_two max_three min_three max_four min_four
set_option linter.unusedVariables false
set_option linter.unusedSimpArgs false
def spec_paCross.l0:Nat→List Int→Int→Int→List Bool→Bool→List Bool→Bool→Option (List Bool × Bool)
 | 0,_,_,_,_,_,_,_=>none
 | k+1,x16,x17,x18,x168000,x168001,x176000,x176001=>if x18 < x17 then (if 0≤x18 then (if x18 < (x16.length:Int) then (if 0≤(rd x16 x18) then (if (rd x16 x18) < (x168000.length:Int) then (if (rd x16 x18) < (x176000.length:Int) then (spec_paCross.l0 k x16 x17 (wrap64 (x18+1)) x168000 x168001 (x176000.set ((rd x16 x18):Int).toNat (!(rdOf false x168000 (rd x16 x18)))) x176001) else (none)) else (none)) else (none)) else (none)) else (none)) else (some (x176000,x176001))
def spec_paCross.f (k:Nat) (l0_0:List Bool) (a0_1:Bool) (l1:List Int):Option (List Bool × Bool):=(some (([]:List Bool):List Bool)).bind fun y169=>(if y169.length+l0_0.length < 140737488355328 then (spec_paCross.l0 k l1 (l1.length:Int) 0 l0_0 a0_1 (y169 ++ l0_0) (!a0_1)) else (none))
def spec_paCross.T1:Bool × List (List Nat × List Nat):=(true,[([],[]),([],[]),([1],[1]),([0,2],[0,2]),([],[]),([4],[4]),([5],[5]),([3,6],[3,6]),([],[]),([8,7,3,0,1,2,3,4,5,6,7,8],[7,8])])
def spec_paCross.B1:List Nat:=[0,0,2,7,0,16,48,127,0,511]
theorem spec_paCross.tab1:rtab .any (opsOf Try.f101 1)=spec_paCross.T1:=by kernel_rfl
theorem spec_paCross.bits1:waitsOk spec_paCross.T1.2 spec_paCross.B1=true:=by kernel_rfl
def spec_paCross.T5:Bool × List (List Nat × List Nat):=(true,[([],[]),([0],[0]),([],[]),([],[]),([3],[3]),([],[]),([4,5],[4,5]),([6],[6]),([7],[7]),([1,2,0,1,2,3,4,5,6,7,8],[1,2]),([9,8,0,1,2,3,4,5,6,7,8],[8,9])])
def spec_paCross.B5:List Nat:=[0,1,0,0,8,0,56,120,248,511,1023]
theorem spec_paCross.tab5:rtab .any (opsOf Try.f101 5)=spec_paCross.T5:=by kernel_rfl
theorem spec_paCross.bits5:waitsOk spec_paCross.T5.2 spec_paCross.B5=true:=by kernel_rfl
set_option maxHeartbeats 8000000 in
set_option maxRecDepth 100000 in
theorem spec_paCross.calls (k:Nat) (A0_0:Option Addr) (c0_0:Nat) (l0_0:List Bool) (a0_1:Bool) (A1:Option Addr) (c1:Nat) (l1:List Int) (r1:List Bool) (r2:Bool) (w:World) (hr0_0:Kd.C Kd.bool w A0_0 l0_0.length l0_0) (hc0_0:l0_0.length≤c0_0) (hr1:Kd.C (Kd.int .i64) w A1 l1.length l1) (hc1:l1.length≤c1) (h:spec_paCross.f k l0_0 a0_1 l1=some (r1,r2)) :
  Calls Try.prog 101 #[.agg #[.slice A0_0 l0_0.length c0_0, .bool a0_1], .slice A1 l1.length c1] w fun e w'=>∃ v0_:Value,e = .returned (.agg #[v0_, .bool r2])∧Kd.R Kd.bool 4 w' w.heap.size (fun _=>True) v0_ r1∧Below w.heap.size w w':=by
 have hu44:=Try.underlying44
 have HR0_0:=am' hr0_0
 have HC0_0:=am' hc0_0
 clear hr0_0 hc0_0;have HR1:=am' hr1
 have HC1:=am' hc1
 clear hr1 hc1;have HB:=am' (Below.refl w.heap.size w)
 have H:((some (([]:List Bool):List Bool)).bind fun y169=>(if y169.length+l0_0.length < 140737488355328 then (spec_paCross.l0 k l1 (l1.length:Int) 0 l0_0 a0_1 (y169 ++ l0_0) (!a0_1)) else (none)))=some (r1,r2):=h
 clear h;obtain ⟨y169,hy169⟩:∃ y_:List Bool,y_=(([]:List Bool)):=⟨_,rfl⟩
 replace H:(if y169.length+l0_0.length < 140737488355328 then (spec_paCross.l0 k l1 (l1.length:Int) 0 l0_0 a0_1 (y169 ++ l0_0) (!a0_1)) else (none))=some (r1,r2):=by first|(rw[hy169];with_reducible exact H)|(have H2_:=(Option.bind_some _ _).symm.trans H;rw[hy169];with_reducible exact H2_)|(have H2_:=(Option.bind_some _ _).symm.trans H;with_reducible exact H2_)|with_reducible exact H|(rw[hy169];exact H)|exact H
 have Ny169:=am' hy169
 clear hy169;by_cases c3:y169.length+l0_0.length < 140737488355328
 ·
  rw[if_pos c3] at H;have LMc3:=am' c3;clear c3;obtain ⟨y172,hy172⟩:∃ y_:List Bool,y_=(y169 ++ l0_0):=⟨_,rfl⟩
  replace H:(spec_paCross.l0 k l1 (l1.length:Int) 0 l0_0 a0_1 y172 (!a0_1))=some (r1,r2):=by first|(rw[hy172];with_reducible exact H)|(have H2_:=(Option.bind_some _ _).symm.trans H;rw[hy172];with_reducible exact H2_)|(have H2_:=(Option.bind_some _ _).symm.trans H;with_reducible exact H2_)|with_reducible exact H|(rw[hy172];exact H)|exact H
  have Ny172:=am' hy172;clear hy172;have H':=am' H;clear H;go_enter Try.func101,Try.ntmps101
  try go_wp2_with (first|((with_reducible refine gate_dst (N:=2) rfl ?_);refine box_event ?hg (N:=2) ?hd (cs:=#[.slice A0_0 l0_0.length c0_0, .bool a0_1]) (t:=44) ?hr ?_;(case hd=>rfl);(case hg=>rfl);(case hr=>first|(go_simp;done)|(go_simp;rfl));intro gb167 hg w4 hbox hb;have n0_:=am' (below_step (by repeat (first|(with_reducible first|exact HB.out|apply ba'|apply bd'|apply be')|exact HB.out)) hb);have n1_:=am' (hbox);have n2_:=am' ((by rw[hg];exact (below_size (by repeat (first|(with_reducible first|exact HB.out|apply ba'|apply bd'|apply be')|exact HB.out))):w.heap.size≤gb167));have n3_:=am' ((by rw[hg];exact (below_size (by repeat (first|(with_reducible first|exact HB.out|apply ba'|apply bd'|apply be')|exact HB.out))):w.heap.size≤gb167));clear HB;have HB:=n0_;have BK167:=n1_;have GW167:=n2_;have GE167:=n3_;clear n0_ n1_ n2_ n3_;clear hb hbox hg)|((with_reducible refine gate_dst (N:=4) rfl ?_);refine box_event ?hg (N:=4) ?hd (cs:=#[.slice none 0 0, .bool false]) (t:=44) ?hr ?_;(case hd=>rfl);(case hg=>rfl);(case hr=>first|(go_simp;done)|(go_simp;rfl));intro gb168 hg w5 hbox hb;have n0_:=am' (blk_below (g:=gb167) (o := .cells #[.slice A0_0 l0_0.length c0_0, .bool a0_1] 44 (0,0)) (by (with_reducible repeat (first|refine kn' ?_ _|refine kd' ?_|refine ka' ?_ _));exact BK167.out) hb);have n1_:=am' (below_step (by repeat (first|(with_reducible first|exact HB.out|apply ba'|apply bd'|apply be'|refine bs' ?_ GE167.out)|exact HB.out)) hb);have n2_:=am' (hbox);have n3_:=am' ((by rw[hg];exact (below_size (by repeat (first|(with_reducible first|exact HB.out|apply ba'|apply bd'|apply be'|refine bs' ?_ GE167.out)|exact HB.out))):w.heap.size≤gb168));have n4_:=am' ((by rw[hg];exact (below_size (by repeat (first|(with_reducible first|exact HB.out|apply ba'|apply bd'|apply be'|refine bs' ?_ GE167.out)|exact HB.out))):w.heap.size≤gb168));have n5_:=am' ((by rw[hg];exact Nat.ne_of_lt (blk_lt (g:=gb167) (o := .cells #[.slice A0_0 l0_0.length c0_0, .bool a0_1] 44 (0,0)) (by (with_reducible repeat (first|refine kn' ?_ _|refine kd' ?_|refine ka' ?_ _));exact BK167.out)):gb167≠gb168));have n6_:=am' ((by rw[hg];exact Nat.ne_of_gt (blk_lt (g:=gb167) (o := .cells #[.slice A0_0 l0_0.length c0_0, .bool a0_1] 44 (0,0)) (by (with_reducible repeat (first|refine kn' ?_ _|refine kd' ?_|refine ka' ?_ _));exact BK167.out)):gb168≠gb167));clear BK167;clear HB;have BK167:=n0_;have HB:=n1_;have BK168:=n2_;have GW168:=n3_;have GE168:=n4_;have NB167_168:=n5_;have NB168_167:=n6_;clear n0_ n1_ n2_ n3_ n4_ n5_ n6_;clear hb hbox hg))
  have n0_:=am' (kd' BK167.out);have n1_:=am' (kd' BK168.out);have n2_:=am' (be' HB.out);clear BK167;clear BK168;clear HB;have BK167:=n0_;have BK168:=n1_;have HB:=n2_;clear n0_ n1_ n2_;refine start_ (n:=10) (S:=fun w'=>w'.cell? ⟨gb167,0,none⟩=some (.slice A0_0 l0_0.length c0_0)∧w'.cell? ⟨gb167,1,none⟩=some (.bool a0_1)) (ds:=[]) #[false,false,false,false,false,false,false,false,false,false] (by kernel_rfl) rfl rfl ⟨(blk_cell BK167.out 0).trans rfl,(blk_cell BK167.out 1).trans rfl⟩ (fun hHeld=>?_);refine with_tabW spec_paCross.tab1 spec_paCross.bits1 (fun HT_ HW_=>?_);generalize w5.drew=w6 at BK167 BK168 HB hHeld ⊢
  refine pure_ (i:=1) (N:=some 9) (v:=?_) (a':=?_) #[false,true,false,false,false,false,false,false,false,false] rfl rfl (any_of HT_.out (by kernel_rfl)) (fun _ _ _ h=>h) (Or.inl ⟨by rfl,?_⟩) ?_ ?_
  rotate_left
  ·
   intro w';go_simp;with_reducible rfl
  rotate_left
  ·
   simp only[Act.put,sa',sb',sc',i64_w,i32_w];rfl
  refine pure_ (i:=4) (N:=some 12) (v:=?_) (a':=?_) #[false,true,false,false,true,false,false,false,false,false] rfl rfl (any_of HT_.out (by kernel_rfl)) (fun _ _ _ h=>h) (Or.inl ⟨by rfl,?_⟩) ?_ ?_
  rotate_left
  ·
   intro w';go_simp;with_reducible rfl
  rotate_left
  ·
   simp only[Act.put,sa',sb',sc',i64_w,i32_w];rfl
  refine take_ (i:=2) (N:=some 10) (v:=?_) (a':=?_) #[false,true,true,false,true,false,false,false,false,false] rfl rfl (take_ofW HT_.out HW_.out (by kernel_rfl)) (fun _ _ _ h=>h) (Or.inl ⟨by rfl,?_⟩) hHeld ?_ ?_
  rotate_left
  ·
   rintro w' ⟨s0,s1⟩
   go_simp;with_reducible rfl
  rotate_left
  ·
   simp only[Act.put,sa',sb',sc',i64_w,i32_w];rfl
  refine take_ (i:=5) (N:=some 13) (v:=?_) (a':=?_) #[false,true,true,false,true,true,false,false,false,false] rfl rfl (take_ofW HT_.out HW_.out (by kernel_rfl)) (fun _ _ _ h=>h) (Or.inl ⟨by rfl,?_⟩) hHeld ?_ ?_
  rotate_left
  ·
   rintro w' ⟨s0,s1⟩
   go_simp;with_reducible rfl
  rotate_left
  ·
   simp only[Act.put,sa',sb',sc',i64_w,i32_w];rfl
  refine pure_ (i:=6) (N:=some 14) (v:=?_) (a':=?_) #[false,true,true,false,true,true,true,false,false,false] rfl rfl (any_of HT_.out (by kernel_rfl)) (fun _ _ _ h=>h) (Or.inl ⟨by rfl,?_⟩) ?_ ?_
  rotate_left
  ·
   intro w';go_simp;with_reducible rfl
  rotate_left
  ·
   simp only[Act.put,sa',sb',sc',i64_w,i32_w];rfl
  refine join_ (σ:=Value × Value × Nat) 1 #[true,true,true,true,true,true,true,true,true,false] (fun s_=>[(8,s_.1),(11,s_.2.1),(5, .pointer (some ⟨s_.2.2,0,none⟩)),(15, .agg #[s_.2.1, .bool (!a0_1)])]) (fun s_ w'=>(w'.cell? ⟨gb167,0,none⟩=some (.slice A0_0 l0_0.length c0_0)∧w'.cell? ⟨gb167,1,none⟩=some (.bool a0_1))∧(Kd.R Kd.bool 4 w' w.heap.size (fun _=>True) s_.2.1 y172)∧(w'.heap[gb167]? = some (.cells #[.slice A0_0 l0_0.length c0_0, .bool a0_1] 44 (0,0)))∧(w'.heap[gb168]? = some (.cells #[.slice none 0 0, .bool false] 44 (0,0)))∧(w'.heap[s_.2.2]? = some (.cells #[.slice none 0 0, .bool false] 44 (0,0)))∧(w.heap.size≤s_.2.2)∧(w.heap.size≤s_.2.2)∧(gb167≠s_.2.2)∧(s_.2.2≠gb167)∧(gb168≠s_.2.2)∧(s_.2.2≠gb168)∧(Below w.heap.size w w')) ?_ ?_
  rotate_left
  ·
   intro hCont;refine two_ (i:=0) (j:=8) (Ni:=some 8) (Nj:=some 5) #[true,true,true,false,true,true,true,false,false,false] #[false,true,true,false,true,true,true,false,true,false] rfl rfl rfl rfl (two_of HT_.out (by kernel_rfl)) (by decide) (by decide) (fun K hK=>?_) (fun K hK=>?_)
   ·
    skip
    refine Kd.R_lit_step Kd.bool _ 4 ?hg (N:=8) ?hd (xs:=([]:List Bool)) (inner:=[]) (ok:=fun _=>True) (okp:=fun _=>True) ?hr ?hp (fun _ hk=>hk) trivial (Below.refl _ _) (Nat.le_refl _) (by simp) ?_;(case hd=>rfl);(case hg=>rfl);(case hr=>first|(go_simp;done)|(go_simp;rfl));(case hp=>exact (Reps.none _ _))
    intro v170 w7 ho8 hb hg_ hnew_;clear hg_ hnew_;(first|rw[← Ny169.out] at ho8|(simp only[Int.reduceToNat] at ho8;rw[← Ny169.out] at ho8))
    have n0_:=am' (Kd.R_lower ho8 (below_size (by repeat (first|(with_reducible first|exact HB.out|apply ba'|apply bd'|apply be'|refine bs' ?_ GE167.out|refine bs' ?_ GE168.out)|exact HB.out))));have n1_:=am' (blk_below (g:=gb167) (o := .cells #[.slice A0_0 l0_0.length c0_0, .bool a0_1] 44 (0,0)) (by (with_reducible repeat (first|refine kn' ?_ _|refine kd' ?_|refine ka' ?_ _));exact BK167.out) hb);have n2_:=am' (blk_below (g:=gb168) (o := .cells #[.slice none 0 0, .bool false] 44 (0,0)) (by (with_reducible repeat (first|refine kn' ?_ _|refine kd' ?_|refine ka' ?_ _));exact BK168.out) hb);have n3_:=am' (below_step (by repeat (first|(with_reducible first|exact HB.out|apply ba'|apply bd'|apply be'|refine bs' ?_ GE167.out|refine bs' ?_ GE168.out)|exact HB.out)) hb);clear BK167;clear BK168;clear HB;have HO171:=n0_;have BK167:=n1_;have BK168:=n2_;have HB:=n3_;clear n0_ n1_ n2_ n3_;clear hb ho8;refine hK.out _ _ ⟨(blk_cell BK167.out 0).trans rfl,(blk_cell BK167.out 1).trans rfl⟩ (fun hHeld=>?_);clear hK K;refine norm_ (a':=?_) ?_ ?_
    rotate_left
    ·
     show Act.put _ (some 8) _=_
     simp only[Act.put,sa',sb',sc',i64_w,i32_w];rfl
    refine two_ (i:=3) (j:=8) (Ni:=some 11) (Nj:=some 5) #[true,true,true,true,true,true,true,false,false,false] #[true,true,true,false,true,true,true,false,true,false] rfl rfl rfl rfl (two_of HT_.out (by kernel_rfl)) (by decide) (by decide) (fun K hK=>?_) (fun K hK=>?_)
    ·
     skip
     refine Kd.R_append_rows_step Kd.bool (w0:=w) w.heap.size (by rfl) (.tmp 8) (.tmp 10) 39 4 (.bool false) 1 rfl Try.underlying39 info4 rfl (by decide) (by omega) v170 y169 l0_0 _ _ _ (fun _=>True) (fun _=>False) rfl rfl ?aO ?aR (fun _ _ h=>h) (fun _ h=>h.elim) ?aF ?aB ?aS ?aL ?_
     (case aR=>repeat (first|exact (Kd.C_below HR0_0.out HB.out)|(with_reducible refine ca' ?_ _)|(with_reducible refine cn' ?_ _)|(with_reducible refine cd' ?_)))
     (case aB=>exact (by repeat (first|(with_reducible first|exact HB.out|apply ba'|apply bd'|apply be'|refine bs' ?_ GE167.out|refine bs' ?_ GE168.out)|exact HB.out)))
     (case aF=>exact (fun _ _=>trivial))
     (case aO=>exact (by (with_reducible repeat (first|apply ra'|apply rn'|apply rw'));exact HO171.out))
     (case aS=>exact (below_size (by repeat (first|(with_reducible first|exact HB.out|apply ba'|apply bd'|apply be'|refine bs' ?_ GE167.out|refine bs' ?_ GE168.out)|exact HB.out))))
     (case aL=>have:=LMc3.out;omega)
     intro v173 w9 ho hb hg hat;rw[← Ny172.out] at ho;have n0_:=am' (blk_grown (g:=gb167) (o := .cells #[.slice A0_0 l0_0.length c0_0, .bool a0_1] 44 (0,0)) (by (with_reducible repeat (first|refine kn' ?_ _|refine kd' ?_|refine ka' ?_ _));exact BK167.out) hg (Kd.R_ne HO171.out BK167.out (by decide)));have n1_:=am' (blk_grown (g:=gb168) (o := .cells #[.slice none 0 0, .bool false] 44 (0,0)) (by (with_reducible repeat (first|refine kn' ?_ _|refine kd' ?_|refine ka' ?_ _));exact BK168.out) hg (Kd.R_ne HO171.out BK168.out (by decide)));have n2_:=am' (hb);have n3_:=am' (ho);clear BK167;clear BK168;clear HB;clear HO171;have BK167:=n0_;have BK168:=n1_;have HB:=n2_;have HO174:=n3_;clear n0_ n1_ n2_ n3_;clear ho hb hg hat;obtain ⟨Ao10,co10,eo10⟩:=Kd.R_slice HO174.out
     (first|subst eo10|(injection eo10 with f1_ f2_ f3_;have f4_:=f1_.symm;have f5_:=f3_.symm;clear f1_ f2_ f3_;subst f4_;subst f5_))
     refine hK.out _ _ ⟨(blk_cell BK167.out 0).trans rfl,(blk_cell BK167.out 1).trans rfl⟩ (fun hHeld=>?_);clear hK K;refine norm_ (a':=?_) ?_ ?_
     rotate_left
     ·
      show Act.put _ (some 11) _=_
      simp only[Act.put,sa',sb',sc',i64_w,i32_w];rfl
     refine pure_ (i:=7) (N:=some 15) (v:=?_) (a':=?_) #[true,true,true,true,true,true,true,true,false,false] rfl rfl (any_of HT_.out (by kernel_rfl)) (fun _ _ _ h=>h) (Or.inl ⟨by rfl,?_⟩) ?_ ?_
     rotate_left
     ·
      intro w';go_simp;with_reducible rfl
     rotate_left
     ·
      simp only[Act.put,sa',sb',sc',i64_w,i32_w];rfl
     refine one_ (i:=8) (N:=some 5) #[true,true,true,true,true,true,true,true,true,false] rfl rfl (one_of HT_.out (by kernel_rfl)) (by decide) (fun K hK=>?_);refine box_step ?hg (N:=5) ?hd (cs:=#[.slice none 0 0, .bool false]) (t:=44) ?hr ?_;(case hd=>rfl);(case hg=>rfl);(case hr=>first|(go_simp;done)|(go_simp;rfl))
     intro gb175 hg w11 hbox hb;have n0_:=am' (Kd.R_below (by (with_reducible repeat (first|apply ra'|apply rn'|apply rw'));exact HO174.out) hb);have n1_:=am' (blk_below (g:=gb167) (o := .cells #[.slice A0_0 l0_0.length c0_0, .bool a0_1] 44 (0,0)) (by (with_reducible repeat (first|refine kn' ?_ _|refine kd' ?_|refine ka' ?_ _));exact BK167.out) hb);have n2_:=am' (blk_below (g:=gb168) (o := .cells #[.slice none 0 0, .bool false] 44 (0,0)) (by (with_reducible repeat (first|refine kn' ?_ _|refine kd' ?_|refine ka' ?_ _));exact BK168.out) hb);have n3_:=am' (below_step (by repeat (first|(with_reducible first|exact HB.out|apply ba'|apply bd'|apply be'|refine bs' ?_ GE167.out|refine bs' ?_ GE168.out)|exact HB.out)) hb);have n4_:=am' (hbox);have n5_:=am' ((by rw[hg];exact (below_size (by repeat (first|(with_reducible first|exact HB.out|apply ba'|apply bd'|apply be'|refine bs' ?_ GE167.out|refine bs' ?_ GE168.out)|exact HB.out))):w.heap.size≤gb175));have n6_:=am' ((by rw[hg];exact (below_size (by repeat (first|(with_reducible first|exact HB.out|apply ba'|apply bd'|apply be'|refine bs' ?_ GE167.out|refine bs' ?_ GE168.out)|exact HB.out))):w.heap.size≤gb175));have n7_:=am' ((by rw[hg];exact Nat.ne_of_lt (blk_lt (g:=gb167) (o := .cells #[.slice A0_0 l0_0.length c0_0, .bool a0_1] 44 (0,0)) (by (with_reducible repeat (first|refine kn' ?_ _|refine kd' ?_|refine ka' ?_ _));exact BK167.out)):gb167≠gb175));have n8_:=am' ((by rw[hg];exact Nat.ne_of_gt (blk_lt (g:=gb167) (o := .cells #[.slice A0_0 l0_0.length c0_0, .bool a0_1] 44 (0,0)) (by (with_reducible repeat (first|refine kn' ?_ _|refine kd' ?_|refine ka' ?_ _));exact BK167.out)):gb175≠gb167));have n9_:=am' ((by rw[hg];exact Nat.ne_of_lt (blk_lt (g:=gb168) (o := .cells #[.slice none 0 0, .bool false] 44 (0,0)) (by (with_reducible repeat (first|refine kn' ?_ _|refine kd' ?_|refine ka' ?_ _));exact BK168.out)):gb168≠gb175));have n10_:=am' ((by rw[hg];exact Nat.ne_of_gt (blk_lt (g:=gb168) (o := .cells #[.slice none 0 0, .bool false] 44 (0,0)) (by (with_reducible repeat (first|refine kn' ?_ _|refine kd' ?_|refine ka' ?_ _));exact BK168.out)):gb175≠gb168));clear HO174;clear BK167;clear BK168;clear HB;have HO174:=n0_;have BK167:=n1_;have BK168:=n2_;have HB:=n3_;have BK175:=n4_;have GW175:=n5_;have GE175:=n6_;have NB167_175:=n7_;have NB175_167:=n8_;have NB168_175:=n9_;have NB175_168:=n10_;clear n0_ n1_ n2_ n3_ n4_ n5_ n6_ n7_ n8_ n9_ n10_;clear hb hbox hg;refine hK.out _ _ ⟨(blk_cell BK167.out 0).trans rfl,(blk_cell BK167.out 1).trans rfl⟩ (fun hHeld=>?_);clear hK K;refine norm_ (a':=?_) ?_ ?_
     rotate_left
     ·
      show Act.put _ (some 5) _=_
      simp only[Act.put,sa',sb',sc',i64_w,i32_w];rfl
     exact norm_ (by simp only[putAll,Act.put,sa',sb',sc']) (hCont (v170, .slice Ao10 y172.length co10,gb175) _ ⟨hHeld,(by (with_reducible repeat (first|apply ra'|apply rn'|apply rw'));exact HO174.out),(by (with_reducible repeat (first|refine kn' ?_ _|refine kd' ?_|refine ka' ?_ _));exact BK167.out),(by (with_reducible repeat (first|refine kn' ?_ _|refine kd' ?_|refine ka' ?_ _));exact BK168.out),(by (with_reducible repeat (first|refine kn' ?_ _|refine kd' ?_|refine ka' ?_ _));exact BK175.out),GW175.out,GE175.out,NB167_175.out,NB175_167.out,NB168_175.out,NB175_168.out,(by repeat (first|(with_reducible first|exact HB.out|apply ba'|apply bd'|apply be'|refine bs' ?_ GE167.out|refine bs' ?_ GE168.out|refine bs' ?_ GE175.out)|exact HB.out))⟩)
    ·
     skip
     refine box_step ?hg (N:=5) ?hd (cs:=#[.slice none 0 0, .bool false]) (t:=44) ?hr ?_;(case hd=>rfl);(case hg=>rfl);(case hr=>first|(go_simp;done)|(go_simp;rfl))
     intro gb175 hg w9 hbox hb;have n0_:=am' (Kd.R_below (by (with_reducible repeat (first|apply ra'|apply rn'|apply rw'));exact HO171.out) hb);have n1_:=am' (blk_below (g:=gb167) (o := .cells #[.slice A0_0 l0_0.length c0_0, .bool a0_1] 44 (0,0)) (by (with_reducible repeat (first|refine kn' ?_ _|refine kd' ?_|refine ka' ?_ _));exact BK167.out) hb);have n2_:=am' (blk_below (g:=gb168) (o := .cells #[.slice none 0 0, .bool false] 44 (0,0)) (by (with_reducible repeat (first|refine kn' ?_ _|refine kd' ?_|refine ka' ?_ _));exact BK168.out) hb);have n3_:=am' (below_step (by repeat (first|(with_reducible first|exact HB.out|apply ba'|apply bd'|apply be'|refine bs' ?_ GE167.out|refine bs' ?_ GE168.out)|exact HB.out)) hb);have n4_:=am' (hbox);have n5_:=am' ((by rw[hg];exact (below_size (by repeat (first|(with_reducible first|exact HB.out|apply ba'|apply bd'|apply be'|refine bs' ?_ GE167.out|refine bs' ?_ GE168.out)|exact HB.out))):w.heap.size≤gb175));have n6_:=am' ((by rw[hg];exact (below_size (by repeat (first|(with_reducible first|exact HB.out|apply ba'|apply bd'|apply be'|refine bs' ?_ GE167.out|refine bs' ?_ GE168.out)|exact HB.out))):w.heap.size≤gb175));have n7_:=am' ((by rw[hg];exact Nat.ne_of_lt (blk_lt (g:=gb167) (o := .cells #[.slice A0_0 l0_0.length c0_0, .bool a0_1] 44 (0,0)) (by (with_reducible repeat (first|refine kn' ?_ _|refine kd' ?_|refine ka' ?_ _));exact BK167.out)):gb167≠gb175));have n8_:=am' ((by rw[hg];exact Nat.ne_of_gt (blk_lt (g:=gb167) (o := .cells #[.slice A0_0 l0_0.length c0_0, .bool a0_1] 44 (0,0)) (by (with_reducible repeat (first|refine kn' ?_ _|refine kd' ?_|refine ka' ?_ _));exact BK167.out)):gb175≠gb167));have n9_:=am' ((by rw[hg];exact Nat.ne_of_lt (blk_lt (g:=gb168) (o := .cells #[.slice none 0 0, .bool false] 44 (0,0)) (by (with_reducible repeat (first|refine kn' ?_ _|refine kd' ?_|refine ka' ?_ _));exact BK168.out)):gb168≠gb175));have n10_:=am' ((by rw[hg];exact Nat.ne_of_gt (blk_lt (g:=gb168) (o := .cells #[.slice none 0 0, .bool false] 44 (0,0)) (by (with_reducible repeat (first|refine kn' ?_ _|refine kd' ?_|refine ka' ?_ _));exact BK168.out)):gb175≠gb168));clear HO171;clear BK167;clear BK168;clear HB;have HO171:=n0_;have BK167:=n1_;have BK168:=n2_;have HB:=n3_;have BK175:=n4_;have GW175:=n5_;have GE175:=n6_;have NB167_175:=n7_;have NB175_167:=n8_;have NB168_175:=n9_;have NB175_168:=n10_;clear n0_ n1_ n2_ n3_ n4_ n5_ n6_ n7_ n8_ n9_ n10_;clear hb hbox hg;refine hK.out _ _ ⟨(blk_cell BK167.out 0).trans rfl,(blk_cell BK167.out 1).trans rfl⟩ (fun hHeld=>?_);clear hK K;refine norm_ (a':=?_) ?_ ?_
     rotate_left
     ·
      show Act.put _ (some 5) _=_
      simp only[Act.put,sa',sb',sc',i64_w,i32_w];rfl
     refine one_ (i:=3) (N:=some 11) #[true,true,true,true,true,true,true,false,true,false] rfl rfl (one_of HT_.out (by kernel_rfl)) (by decide) (fun K hK=>?_);refine Kd.R_append_rows_step Kd.bool (w0:=w) w.heap.size (by rfl) (.tmp 8) (.tmp 10) 39 4 (.bool false) 1 rfl Try.underlying39 info4 rfl (by decide) (by omega) v170 y169 l0_0 _ _ _ (fun _=>True) (fun _=>False) rfl rfl ?aO ?aR (fun _ _ h=>h) (fun _ h=>h.elim) ?aF ?aB ?aS ?aL ?_
     (case aR=>repeat (first|exact (Kd.C_below HR0_0.out HB.out)|(with_reducible refine ca' ?_ _)|(with_reducible refine cn' ?_ _)|(with_reducible refine cd' ?_)))
     (case aB=>exact (by repeat (first|(with_reducible first|exact HB.out|apply ba'|apply bd'|apply be'|refine bs' ?_ GE167.out|refine bs' ?_ GE168.out|refine bs' ?_ GE175.out)|exact HB.out)))
     (case aF=>exact (fun _ _=>trivial))
     (case aO=>exact (by (with_reducible repeat (first|apply ra'|apply rn'|apply rw'));exact HO171.out))
     (case aS=>exact (below_size (by repeat (first|(with_reducible first|exact HB.out|apply ba'|apply bd'|apply be'|refine bs' ?_ GE167.out|refine bs' ?_ GE168.out|refine bs' ?_ GE175.out)|exact HB.out))))
     (case aL=>have:=LMc3.out;omega)
     intro v173 w10 ho hb hg hat;rw[← Ny172.out] at ho;have n0_:=am' (blk_grown (g:=gb167) (o := .cells #[.slice A0_0 l0_0.length c0_0, .bool a0_1] 44 (0,0)) (by (with_reducible repeat (first|refine kn' ?_ _|refine kd' ?_|refine ka' ?_ _));exact BK167.out) hg (Kd.R_ne HO171.out BK167.out (by decide)));have n1_:=am' (blk_grown (g:=gb168) (o := .cells #[.slice none 0 0, .bool false] 44 (0,0)) (by (with_reducible repeat (first|refine kn' ?_ _|refine kd' ?_|refine ka' ?_ _));exact BK168.out) hg (Kd.R_ne HO171.out BK168.out (by decide)));have n2_:=am' (blk_grown (g:=gb175) (o := .cells #[.slice none 0 0, .bool false] 44 (0,0)) (by (with_reducible repeat (first|refine kn' ?_ _|refine kd' ?_|refine ka' ?_ _));exact BK175.out) hg (Kd.R_ne HO171.out BK175.out (by decide)));have n3_:=am' (hb);have n4_:=am' (ho);clear BK167;clear BK168;clear BK175;clear HB;clear HO171;have BK167:=n0_;have BK168:=n1_;have BK175:=n2_;have HB:=n3_;have HO174:=n4_;clear n0_ n1_ n2_ n3_ n4_;clear ho hb hg hat;obtain ⟨Ao11,co11,eo11⟩:=Kd.R_slice HO174.out
     (first|subst eo11|(injection eo11 with f1_ f2_ f3_;have f4_:=f1_.symm;have f5_:=f3_.symm;clear f1_ f2_ f3_;subst f4_;subst f5_))
     refine hK.out _ _ ⟨(blk_cell BK167.out 0).trans rfl,(blk_cell BK167.out 1).trans rfl⟩ (fun hHeld=>?_);clear hK K;refine norm_ (a':=?_) ?_ ?_
     rotate_left
     ·
      show Act.put _ (some 11) _=_
      simp only[Act.put,sa',sb',sc',i64_w,i32_w];rfl
     refine pure_ (i:=7) (N:=some 15) (v:=?_) (a':=?_) #[true,true,true,true,true,true,true,true,true,false] rfl rfl (any_of HT_.out (by kernel_rfl)) (fun _ _ _ h=>h) (Or.inl ⟨by rfl,?_⟩) ?_ ?_
     rotate_left
     ·
      intro w';go_simp;with_reducible rfl
     rotate_left
     ·
      simp only[Act.put,sa',sb',sc',i64_w,i32_w];rfl
     exact norm_ (by simp only[putAll,Act.put,sa',sb',sc']) (hCont (v170, .slice Ao11 y172.length co11,gb175) _ ⟨hHeld,(by (with_reducible repeat (first|apply ra'|apply rn'|apply rw'));exact HO174.out),(by (with_reducible repeat (first|refine kn' ?_ _|refine kd' ?_|refine ka' ?_ _));exact BK167.out),(by (with_reducible repeat (first|refine kn' ?_ _|refine kd' ?_|refine ka' ?_ _));exact BK168.out),(by (with_reducible repeat (first|refine kn' ?_ _|refine kd' ?_|refine ka' ?_ _));exact BK175.out),GW175.out,GE175.out,NB167_175.out,NB175_167.out,NB168_175.out,NB175_168.out,(by repeat (first|(with_reducible first|exact HB.out|apply ba'|apply bd'|apply be'|refine bs' ?_ GE167.out|refine bs' ?_ GE168.out|refine bs' ?_ GE175.out)|exact HB.out))⟩)
   ·
    skip
    refine box_step ?hg (N:=5) ?hd (cs:=#[.slice none 0 0, .bool false]) (t:=44) ?hr ?_;(case hd=>rfl);(case hg=>rfl);(case hr=>first|(go_simp;done)|(go_simp;rfl))
    intro gb175 hg w7 hbox hb;have n0_:=am' (blk_below (g:=gb167) (o := .cells #[.slice A0_0 l0_0.length c0_0, .bool a0_1] 44 (0,0)) (by (with_reducible repeat (first|refine kn' ?_ _|refine kd' ?_|refine ka' ?_ _));exact BK167.out) hb);have n1_:=am' (blk_below (g:=gb168) (o := .cells #[.slice none 0 0, .bool false] 44 (0,0)) (by (with_reducible repeat (first|refine kn' ?_ _|refine kd' ?_|refine ka' ?_ _));exact BK168.out) hb);have n2_:=am' (below_step (by repeat (first|(with_reducible first|exact HB.out|apply ba'|apply bd'|apply be'|refine bs' ?_ GE167.out|refine bs' ?_ GE168.out)|exact HB.out)) hb);have n3_:=am' (hbox);have n4_:=am' ((by rw[hg];exact (below_size (by repeat (first|(with_reducible first|exact HB.out|apply ba'|apply bd'|apply be'|refine bs' ?_ GE167.out|refine bs' ?_ GE168.out)|exact HB.out))):w.heap.size≤gb175));have n5_:=am' ((by rw[hg];exact (below_size (by repeat (first|(with_reducible first|exact HB.out|apply ba'|apply bd'|apply be'|refine bs' ?_ GE167.out|refine bs' ?_ GE168.out)|exact HB.out))):w.heap.size≤gb175));have n6_:=am' ((by rw[hg];exact Nat.ne_of_lt (blk_lt (g:=gb167) (o := .cells #[.slice A0_0 l0_0.length c0_0, .bool a0_1] 44 (0,0)) (by (with_reducible repeat (first|refine kn' ?_ _|refine kd' ?_|refine ka' ?_ _));exact BK167.out)):gb167≠gb175));have n7_:=am' ((by rw[hg];exact Nat.ne_of_gt (blk_lt (g:=gb167) (o := .cells #[.slice A0_0 l0_0.length c0_0, .bool a0_1] 44 (0,0)) (by (with_reducible repeat (first|refine kn' ?_ _|refine kd' ?_|refine ka' ?_ _));exact BK167.out)):gb175≠gb167));have n8_:=am' ((by rw[hg];exact Nat.ne_of_lt (blk_lt (g:=gb168) (o := .cells #[.slice none 0 0, .bool false] 44 (0,0)) (by (with_reducible repeat (first|refine kn' ?_ _|refine kd' ?_|refine ka' ?_ _));exact BK168.out)):gb168≠gb175));have n9_:=am' ((by rw[hg];exact Nat.ne_of_gt (blk_lt (g:=gb168) (o := .cells #[.slice none 0 0, .bool false] 44 (0,0)) (by (with_reducible repeat (first|refine kn' ?_ _|refine kd' ?_|refine ka' ?_ _));exact BK168.out)):gb175≠gb168));clear BK167;clear BK168;clear HB;have BK167:=n0_;have BK168:=n1_;have HB:=n2_;have BK175:=n3_;have GW175:=n4_;have GE175:=n5_;have NB167_175:=n6_;have NB175_167:=n7_;have NB168_175:=n8_;have NB175_168:=n9_;clear n0_ n1_ n2_ n3_ n4_ n5_ n6_ n7_ n8_ n9_;clear hb hbox hg;refine hK.out _ _ ⟨(blk_cell BK167.out 0).trans rfl,(blk_cell BK167.out 1).trans rfl⟩ (fun hHeld=>?_);clear hK K;refine norm_ (a':=?_) ?_ ?_
    rotate_left
    ·
     show Act.put _ (some 5) _=_
     simp only[Act.put,sa',sb',sc',i64_w,i32_w];rfl
    refine one_ (i:=0) (N:=some 8) #[true,true,true,false,true,true,true,false,true,false] rfl rfl (one_of HT_.out (by kernel_rfl)) (by decide) (fun K hK=>?_);refine Kd.R_lit_step Kd.bool _ 4 ?hg (N:=8) ?hd (xs:=([]:List Bool)) (inner:=[]) (ok:=fun _=>True) (okp:=fun _=>True) ?hr ?hp (fun _ hk=>hk) trivial (Below.refl _ _) (Nat.le_refl _) (by simp) ?_;(case hd=>rfl);(case hg=>rfl);(case hr=>first|(go_simp;done)|(go_simp;rfl));(case hp=>exact (Reps.none _ _))
    intro v170 w8 ho9 hb hg_ hnew_;clear hg_ hnew_;(first|rw[← Ny169.out] at ho9|(simp only[Int.reduceToNat] at ho9;rw[← Ny169.out] at ho9))
    have n0_:=am' (Kd.R_lower ho9 (below_size (by repeat (first|(with_reducible first|exact HB.out|apply ba'|apply bd'|apply be'|refine bs' ?_ GE167.out|refine bs' ?_ GE168.out|refine bs' ?_ GE175.out)|exact HB.out))));have n1_:=am' (blk_below (g:=gb167) (o := .cells #[.slice A0_0 l0_0.length c0_0, .bool a0_1] 44 (0,0)) (by (with_reducible repeat (first|refine kn' ?_ _|refine kd' ?_|refine ka' ?_ _));exact BK167.out) hb);have n2_:=am' (blk_below (g:=gb168) (o := .cells #[.slice none 0 0, .bool false] 44 (0,0)) (by (with_reducible repeat (first|refine kn' ?_ _|refine kd' ?_|refine ka' ?_ _));exact BK168.out) hb);have n3_:=am' (blk_below (g:=gb175) (o := .cells #[.slice none 0 0, .bool false] 44 (0,0)) (by (with_reducible repeat (first|refine kn' ?_ _|refine kd' ?_|refine ka' ?_ _));exact BK175.out) hb);have n4_:=am' (below_step (by repeat (first|(with_reducible first|exact HB.out|apply ba'|apply bd'|apply be'|refine bs' ?_ GE167.out|refine bs' ?_ GE168.out|refine bs' ?_ GE175.out)|exact HB.out)) hb);clear BK167;clear BK168;clear BK175;clear HB;have HO171:=n0_;have BK167:=n1_;have BK168:=n2_;have BK175:=n3_;have HB:=n4_;clear n0_ n1_ n2_ n3_ n4_;clear hb ho9;refine hK.out _ _ ⟨(blk_cell BK167.out 0).trans rfl,(blk_cell BK167.out 1).trans rfl⟩ (fun hHeld=>?_);clear hK K;refine norm_ (a':=?_) ?_ ?_
    rotate_left
    ·
     show Act.put _ (some 8) _=_
     simp only[Act.put,sa',sb',sc',i64_w,i32_w];rfl
    refine one_ (i:=3) (N:=some 11) #[true,true,true,true,true,true,true,false,true,false] rfl rfl (one_of HT_.out (by kernel_rfl)) (by decide) (fun K hK=>?_);refine Kd.R_append_rows_step Kd.bool (w0:=w) w.heap.size (by rfl) (.tmp 8) (.tmp 10) 39 4 (.bool false) 1 rfl Try.underlying39 info4 rfl (by decide) (by omega) v170 y169 l0_0 _ _ _ (fun _=>True) (fun _=>False) rfl rfl ?aO ?aR (fun _ _ h=>h) (fun _ h=>h.elim) ?aF ?aB ?aS ?aL ?_
    (case aR=>repeat (first|exact (Kd.C_below HR0_0.out HB.out)|(with_reducible refine ca' ?_ _)|(with_reducible refine cn' ?_ _)|(with_reducible refine cd' ?_)))
    (case aB=>exact (by repeat (first|(with_reducible first|exact HB.out|apply ba'|apply bd'|apply be'|refine bs' ?_ GE167.out|refine bs' ?_ GE168.out|refine bs' ?_ GE175.out)|exact HB.out)))
    (case aF=>exact (fun _ _=>trivial))
    (case aO=>exact (by (with_reducible repeat (first|apply ra'|apply rn'|apply rw'));exact HO171.out))
    (case aS=>exact (below_size (by repeat (first|(with_reducible first|exact HB.out|apply ba'|apply bd'|apply be'|refine bs' ?_ GE167.out|refine bs' ?_ GE168.out|refine bs' ?_ GE175.out)|exact HB.out))))
    (case aL=>have:=LMc3.out;omega)
    intro v173 w10 ho hb hg hat;rw[← Ny172.out] at ho;have n0_:=am' (blk_grown (g:=gb167) (o := .cells #[.slice A0_0 l0_0.length c0_0, .bool a0_1] 44 (0,0)) (by (with_reducible repeat (first|refine kn' ?_ _|refine kd' ?_|refine ka' ?_ _));exact BK167.out) hg (Kd.R_ne HO171.out BK167.out (by decide)));have n1_:=am' (blk_grown (g:=gb168) (o := .cells #[.slice none 0 0, .bool false] 44 (0,0)) (by (with_reducible repeat (first|refine kn' ?_ _|refine kd' ?_|refine ka' ?_ _));exact BK168.out) hg (Kd.R_ne HO171.out BK168.out (by decide)));have n2_:=am' (blk_grown (g:=gb175) (o := .cells #[.slice none 0 0, .bool false] 44 (0,0)) (by (with_reducible repeat (first|refine kn' ?_ _|refine kd' ?_|refine ka' ?_ _));exact BK175.out) hg (Kd.R_ne HO171.out BK175.out (by decide)));have n3_:=am' (hb);have n4_:=am' (ho);clear BK167;clear BK168;clear BK175;clear HB;clear HO171;have BK167:=n0_;have BK168:=n1_;have BK175:=n2_;have HB:=n3_;have HO174:=n4_;clear n0_ n1_ n2_ n3_ n4_;clear ho hb hg hat;obtain ⟨Ao11,co11,eo11⟩:=Kd.R_slice HO174.out
    (first|subst eo11|(injection eo11 with f1_ f2_ f3_;have f4_:=f1_.symm;have f5_:=f3_.symm;clear f1_ f2_ f3_;subst f4_;subst f5_))
    refine hK.out _ _ ⟨(blk_cell BK167.out 0).trans rfl,(blk_cell BK167.out 1).trans rfl⟩ (fun hHeld=>?_);clear hK K;refine norm_ (a':=?_) ?_ ?_
    rotate_left
    ·
     show Act.put _ (some 11) _=_
     simp only[Act.put,sa',sb',sc',i64_w,i32_w];rfl
    refine pure_ (i:=7) (N:=some 15) (v:=?_) (a':=?_) #[true,true,true,true,true,true,true,true,true,false] rfl rfl (any_of HT_.out (by kernel_rfl)) (fun _ _ _ h=>h) (Or.inl ⟨by rfl,?_⟩) ?_ ?_
    rotate_left
    ·
     intro w';go_simp;with_reducible rfl
    rotate_left
    ·
     simp only[Act.put,sa',sb',sc',i64_w,i32_w];rfl
    exact norm_ (by simp only[putAll,Act.put,sa',sb',sc']) (hCont (v170, .slice Ao11 y172.length co11,gb175) _ ⟨hHeld,(by (with_reducible repeat (first|apply ra'|apply rn'|apply rw'));exact HO174.out),(by (with_reducible repeat (first|refine kn' ?_ _|refine kd' ?_|refine ka' ?_ _));exact BK167.out),(by (with_reducible repeat (first|refine kn' ?_ _|refine kd' ?_|refine ka' ?_ _));exact BK168.out),(by (with_reducible repeat (first|refine kn' ?_ _|refine kd' ?_|refine ka' ?_ _));exact BK175.out),GW175.out,GE175.out,NB167_175.out,NB175_167.out,NB168_175.out,NB175_168.out,(by repeat (first|(with_reducible first|exact HB.out|apply ba'|apply bd'|apply be'|refine bs' ?_ GE167.out|refine bs' ?_ GE168.out|refine bs' ?_ GE175.out)|exact HB.out))⟩)
  rintro ⟨v170,v173,gb175⟩ w12 ⟨hS_,h0_,h1_,h2_,h3_,h4_,h5_,h6_,h7_,h8_,h9_,h10_⟩
  have n0_:Aside0 (Kd.R Kd.bool 4 w12 w.heap.size (fun _=>True) v173 y172):=⟨h0_⟩
  have n1_:Aside0 (w12.heap[gb167]? = some (.cells #[.slice A0_0 l0_0.length c0_0, .bool a0_1] 44 (0,0))):=⟨h1_⟩
  have n2_:Aside0 (w12.heap[gb168]? = some (.cells #[.slice none 0 0, .bool false] 44 (0,0))):=⟨h2_⟩
  have n3_:Aside0 (w12.heap[gb175]? = some (.cells #[.slice none 0 0, .bool false] 44 (0,0))):=⟨h3_⟩
  have n4_:Aside0 (w.heap.size≤gb175):=⟨h4_⟩
  have n5_:Aside0 (w.heap.size≤gb175):=⟨h5_⟩
  have n6_:Aside0 (gb167≠gb175):=⟨h6_⟩
  have n7_:Aside0 (gb175≠gb167):=⟨h7_⟩
  have n8_:Aside0 (gb168≠gb175):=⟨h8_⟩
  have n9_:Aside0 (gb175≠gb168):=⟨h9_⟩
  have n10_:Aside0 (Below w.heap.size w w12):=⟨h10_⟩
  clear BK167;clear BK168;clear HB;clear h0_ h1_ h2_ h3_ h4_ h5_ h6_ h7_ h8_ h9_ h10_;have HO174:=n0_;have BK167:=n1_;have BK168:=n2_;have BK175:=n3_;have GW175:=n4_;have GE175:=n5_;have NB167_175:=n6_;have NB175_167:=n7_;have NB168_175:=n8_;have NB175_168:=n9_;have HB:=n10_;clear n0_ n1_ n2_ n3_ n4_ n5_ n6_ n7_ n8_ n9_ n10_;have hHeld:w12.cell? ⟨gb167,0,none⟩=some (.slice A0_0 l0_0.length c0_0)∧w12.cell? ⟨gb167,1,none⟩=some (.bool a0_1):=hS_;obtain ⟨Ao13,co13,eo13⟩:=Kd.R_slice HO174.out
  (first|subst eo13|(injection eo13 with f1_ f2_ f3_;have f4_:=f1_.symm;have f5_:=f3_.symm;clear f1_ f2_ f3_;subst f4_;subst f5_))
  refine norm_ (a':=?_) ?_ ?_
  rotate_left
  ·
   simp only[putAll,Act.put,sa',sb',sc'];rfl
  refine one_ (i:=9) (N:=none) #[true,true,true,true,true,true,true,true,true,true] rfl rfl (one_of HT_.out (by kernel_rfl)) (by decide) (fun K hK=>?_);have hs14:w12.cell? ⟨gb175,0,none⟩=some (.slice none 0 0):=(blk_cell BK175.out 0).trans rfl;have hfs14:=blk_frozen BK175.out 0;have hns14_0:=NB167_175.out;have hns14_1:=NB168_175.out;have hms14_0:=NB175_167.out;have hms14_1:=NB175_168.out;have hs15:w12.cell? ⟨gb175,1,none⟩=some (.bool false):=(blk_cell BK175.out 1).trans rfl;have hfs15:=blk_frozen BK175.out 1;have hns15_0:=NB167_175.out;have hns15_1:=NB168_175.out;have hms15_0:=NB175_167.out;have hms15_1:=NB175_168.out;refine skip_ (w1:=?_) (by rfl) rfl ?_ ?_
  rotate_left
  ·
   go_simp;rfl
  refine hK.out _ _ ⟨((cell_far (p:=⟨gb175,_,none⟩) NB167_175.out _).trans (((cell_far (p:=⟨gb175,_,none⟩) NB167_175.out _).trans (hHeld.1)))),((cell_far (p:=⟨gb175,_,none⟩) NB167_175.out _).trans (((cell_far (p:=⟨gb175,_,none⟩) NB167_175.out _).trans (hHeld.2))))⟩ (fun hHeld=>?_);clear hK K;refine done_ (done_of HT_.out (by kernel_rfl)) ?_
  try go_wp2
  go_loopg [18] k (fun kq v18 w'=>∃ (x18_1:Int) (x176000_1:List Bool) (u176000:Value),v18 = .int .i64 x18_1∧Aside0 (spec_paCross.l0 kq l1 (l1.length:Int) x18_1 l0_0 a0_1 x176000_1 (!a0_1)=some (r1,r2))∧Aside0 (kq≤k)∧Aside0 (Kd.R Kd.bool 4 w' w.heap.size (fun _=>True) u176000 x176000_1)∧Aside0 (w'.heap[gb167]? = some (.cells #[(.slice A0_0 l0_0.length c0_0), .bool a0_1] 44 (0,0)))∧Aside0 (w'.heap[gb168]? = some (.cells #[(.slice none 0 0), .bool false] 44 (0,0)))∧Aside0 (w'.heap[gb175]? = some (.cells #[u176000, .bool (!a0_1)] 44 (0,0)))∧Aside0 (Below w.heap.size w w'))
  case atStart=>exact ⟨(0),(y172),(.slice Ao13 y172.length co13),(by first|rfl|(simp;done)|(simp[*];done)),H',⟨Nat.le_refl _⟩,⟨by (with_reducible repeat (first|apply ra'|apply rn'|apply rw'));exact Kd.R_mono (Kd.R_far (p:=⟨gb175,1,none⟩) (Kd.R_far (p:=⟨gb175,0,none⟩) (Kd.R_types HO174.out BK175.out (by decide)) (fun _ hk=>hk.2) (.slice Ao13 y172.length co13)) (fun _ hk=>hk.2) (.bool (!a0_1))) (fun _ hk=>trivial)⟩,⟨by (with_reducible repeat (first|refine kn' ?_ _|refine kd' ?_|refine ka' ?_ _));refine blk_far ?_ NB167_175.out _;(with_reducible repeat (first|refine kn' ?_ _|refine kd' ?_|refine ka' ?_ _));refine blk_far ?_ NB167_175.out _;(with_reducible repeat (first|refine kn' ?_ _|refine kd' ?_|refine ka' ?_ _));exact BK167.out⟩,⟨by (with_reducible repeat (first|refine kn' ?_ _|refine kd' ?_|refine ka' ?_ _));refine blk_far ?_ NB168_175.out _;(with_reducible repeat (first|refine kn' ?_ _|refine kd' ?_|refine ka' ?_ _));refine blk_far ?_ NB168_175.out _;(with_reducible repeat (first|refine kn' ?_ _|refine kd' ?_|refine ka' ?_ _));exact BK168.out⟩,⟨by (with_reducible repeat (first|refine kn' ?_ _|refine kd' ?_|refine ka' ?_ _));refine blk_put (cs:=#[.slice Ao13 y172.length co13, .bool false]) ?_ 1 _ rfl;(with_reducible repeat (first|refine kn' ?_ _|refine kd' ?_|refine ka' ?_ _));refine blk_put (cs:=#[.slice none 0 0, .bool false]) ?_ 0 _ rfl;(with_reducible repeat (first|refine kn' ?_ _|refine kd' ?_|refine ka' ?_ _));exact BK175.out⟩,⟨by repeat (first|(with_reducible first|exact HB.out|apply ba'|apply bd'|apply be'|refine bs' ?_ GE167.out|refine bs' ?_ GE168.out|refine bs' ?_ GE175.out)|exact HB.out)⟩⟩
  case round =>
   clear H';try clear c1
   try clear p2
   try clear c3
   try clear c10
   obtain ⟨x18_1,x176000_1,u176000,rfl,HA,HK1,HO_176000,BK167,BK168,BK175,HB⟩:=hrel;cases gk with
   | zero=>exact absurd HA.out (by simp[spec_paCross.l0])
   | succ k1 =>
    have H:=HA.out;clear HA;simp only[spec_paCross.l0] at H;by_cases c16:x18_1 < (l1.length:Int)
    ·
     rw[if_pos c16] at H;have c16b0:decide (x18_1 < (l1.length:Int))=true:=decide_eq_true c16;clear c16;by_cases c17:0≤x18_1
     ·
      rw[if_pos c17] at H;have c17b0:decide (0≤x18_1)=true:=decide_eq_true c17;clear c17;by_cases c18:x18_1 < (l1.length:Int)
      ·
       rw[if_pos c18] at H;have c18b0:decide (x18_1 < (l1.length:Int))=true:=decide_eq_true c18;clear c18;by_cases c19:0≤(rd l1 x18_1)
       ·
        rw[if_pos c19] at H;have c19b0:decide (0≤(rd l1 x18_1))=true:=decide_eq_true c19;clear c19;by_cases c20:(rd l1 x18_1) < (l0_0.length:Int)
        ·
         rw[if_pos c20] at H;have c20b0:decide ((rd l1 x18_1) < (l0_0.length:Int))=true:=decide_eq_true c20;clear c20;by_cases c21:(rd l1 x18_1) < (x176000_1.length:Int)
         ·
          rw[if_pos c21] at H;have c21b0:decide ((rd l1 x18_1) < (x176000_1.length:Int))=true:=decide_eq_true c21;clear c21;obtain ⟨y178,hy178⟩:∃ y_:List Bool,y_=(x176000_1.set ((rd l1 x18_1):Int).toNat (!(rdOf false l0_0 (rd l1 x18_1)))):=⟨_,rfl⟩
          replace H:(spec_paCross.l0 k1 l1 (l1.length:Int) (wrap64 (x18_1+1)) l0_0 a0_1 y178 (!a0_1))=some (r1,r2):=by first|(rw[hy178];with_reducible exact H)|(have H2_:=(Option.bind_some _ _).symm.trans H;rw[hy178];with_reducible exact H2_)|(have H2_:=(Option.bind_some _ _).symm.trans H;with_reducible exact H2_)|with_reducible exact H|(rw[hy178];exact H)|exact H
          have Ny178:=am' hy178;clear hy178;have H':=am' H;clear H;have p176:0≤(x18_1:Int):=of_decide_eq_true (by first|(with_reducible assumption)|assumption);have q176:x18_1 < (l1.length:Int):=of_decide_eq_true (by first|(with_reducible assumption)|assumption);obtain ⟨ad176,e176,hx176_0⟩:=Kd.at_int HR1.out x18_1 p176 q176;cases e176;replace hx176_0:=(HB.out.cell (bl' w _ hx176_0)).trans hx176_0;replace p176:=eq_true p176;replace q176:=eq_true q176
          try go_wp2
          have n0_:=am' (rw' HO_176000.out);have n1_:=am' (kd' BK167.out);have n2_:=am' (kd' BK168.out);have n3_:=am' (kd' BK175.out);have n4_:=am' (be' HB.out);clear HO_176000;clear BK167;clear BK168;clear BK175;clear HB;have HO_176000:=n0_;have BK167:=n1_;have BK168:=n2_;have BK175:=n3_;have HB:=n4_;clear n0_ n1_ n2_ n3_ n4_;have p177:0≤((rd l1 x18_1):Int):=of_decide_eq_true (by first|(with_reducible assumption)|assumption);have q177:(rd l1 x18_1) < (l0_0.length:Int):=of_decide_eq_true (by first|(with_reducible assumption)|assumption);obtain ⟨ad177,e177,hx177_0⟩:=Kd.at_bool HR0_0.out (rd l1 x18_1) p177 q177;have hw177_0:=hx177_0;cases e177;replace hx177_0:=(HB.out.cell (bl' w _ hx177_0)).trans hx177_0;replace p177:=eq_true p177;replace q177:=eq_true q177;have p22:0≤((rd l1 x18_1):Int):=of_decide_eq_true (by first|(with_reducible assumption)|assumption);have q22:((rd l1 x18_1):Int) < ((x176000_1.length:Int):Int):=of_decide_eq_true (by first|(with_reducible assumption)|assumption);obtain ⟨go22,co22,eo22,gb22,gl22,cl22,HG22⟩:=Kd.R_form HO_176000.out (by omega)
          (first|cases eo22|(injection eo22 with ea_ en_ ec_;(first|subst ea_|(injection ea_ with ea_;subst ea_));subst ec_;clear en_))
          have GB22:=am' gb22;have GG22:=am' HG22;clear gb22 gl22 HG22;obtain ⟨hx22_0,hf22_0⟩:=Kd.R_celln false HO_176000.out ((rd l1 x18_1):Int) p22 q22;replace p22:=eq_true p22;replace q22:=eq_true q22;have HP24:=Kd.R_putn HO_176000.out ((rd l1 x18_1):Int) (!(rdOf false l0_0 (rd l1 x18_1)));rw[← Ny178.out] at HP24;have HQ24:=am' HP24;clear HP24;refine start_ (n:=11) (S:=fun w'=>w'.cell? ⟨gb175,0,none⟩=some (.slice (some ⟨go22,0,none⟩) x176000_1.length co22)∧w'.cell? ⟨gb175,1,none⟩=some (.bool (!a0_1))∧w'.cell? ⟨gb167,0,none⟩=some (.slice (some ad177) l0_0.length c0_0)∧w'.cell? ⟨gb167,1,none⟩=some (.bool a0_1)∧w'.cell? (ad177.add ((rd l1 x18_1)).toNat)=some (.bool (rdOf false l0_0 (rd l1 x18_1)))) (ds:=[10]) #[false,false,false,false,false,false,false,false,false,false,false] (by kernel_rfl) rfl rfl ⟨(blk_cell BK175.out 0).trans rfl,(blk_cell BK175.out 1).trans rfl,(blk_cell BK167.out 0).trans rfl,(blk_cell BK167.out 1).trans rfl,((HB.out.cell (bl' w _ hw177_0)).trans hw177_0)⟩ (fun hHeld=>?_);refine with_tabW spec_paCross.tab5 spec_paCross.bits5 (fun HT_ HW_=>?_);generalize wr.drew=w23 at HO_176000 BK167 BK168 BK175 HB GG22 HQ24 hf22_0 hx177_0 hx22_0 hHeld ⊢
          refine pure_ (i:=0) (N:=some 22) (v:=?_) (a':=?_) #[true,false,false,false,false,false,false,false,false,false,false] rfl rfl (any_of HT_.out (by kernel_rfl)) (fun _ _ _ h=>h) (Or.inl ⟨by rfl,?_⟩) ?_ ?_
          rotate_left
          ·
           intro w';go_simp;with_reducible rfl
          rotate_left
          ·
           simp only[Act.put,sa',sb',sc',i64_w,i32_w];rfl
          refine pure_ (i:=2) (N:=some 24) (v:=?_) (a':=?_) #[true,false,true,false,false,false,false,false,false,false,false] rfl rfl (any_of HT_.out (by kernel_rfl)) (fun _ _ _ h=>h) (Or.inl ⟨by rfl,?_⟩) ?_ ?_
          rotate_left
          ·
           intro w';go_simp;with_reducible rfl
          rotate_left
          ·
           simp only[Act.put,sa',sb',sc',i64_w,i32_w];rfl
          refine pure_ (i:=3) (N:=some 25) (v:=?_) (a':=?_) #[true,false,true,true,false,false,false,false,false,false,false] rfl rfl (any_of HT_.out (by kernel_rfl)) (fun _ _ _ h=>h) (Or.inl ⟨by rfl,?_⟩) ?_ ?_
          rotate_left
          ·
           intro w';go_simp;with_reducible rfl
          rotate_left
          ·
           simp only[Act.put,sa',sb',sc',i64_w,i32_w];rfl
          refine pure_ (i:=5) (N:=some 27) (v:=?_) (a':=?_) #[true,false,true,true,false,true,false,false,false,false,false] rfl rfl (any_of HT_.out (by kernel_rfl)) (fun _ _ _ h=>h) (Or.inl ⟨by rfl,?_⟩) ?_ ?_
          rotate_left
          ·
           intro w';go_simp;with_reducible rfl
          rotate_left
          ·
           simp only[Act.put,sa',sb',sc',i64_w,i32_w];rfl
          refine take_ (i:=1) (N:=some 23) (v:=?_) (a':=?_) #[true,true,true,true,false,true,false,false,false,false,false] rfl rfl (take_ofW HT_.out HW_.out (by kernel_rfl)) (fun _ _ _ h=>h) (Or.inl ⟨by rfl,?_⟩) hHeld ?_ ?_
          rotate_left
          ·
           rintro w' ⟨s0,s1,s2,s3,s4⟩
           go_simp;with_reducible rfl
          rotate_left
          ·
           simp only[Act.put,sa',sb',sc',i64_w,i32_w];rfl
          refine take_ (i:=4) (N:=some 26) (v:=?_) (a':=?_) #[true,true,true,true,true,true,false,false,false,false,false] rfl rfl (take_ofW HT_.out HW_.out (by kernel_rfl)) (fun _ _ _ h=>h) (Or.inl ⟨by rfl,?_⟩) hHeld ?_ ?_
          rotate_left
          ·
           rintro w' ⟨s0,s1,s2,s3,s4⟩
           go_simp;with_reducible rfl
          rotate_left
          ·
           simp only[Act.put,sa',sb',sc',i64_w,i32_w];rfl
          refine pure_ (i:=6) (N:=some 28) (v:=?_) (a':=?_) #[true,true,true,true,true,true,true,false,false,false,false] rfl rfl (any_of HT_.out (by kernel_rfl)) (fun _ _ _ h=>h) (Or.inl ⟨by rfl,?_⟩) ?_ ?_
          rotate_left
          ·
           intro w';go_simp;with_reducible rfl
          rotate_left
          ·
           simp only[Act.put,sa',sb',sc',i64_w,i32_w];rfl
          refine take_ (i:=7) (N:=some 29) (v:=?_) (a':=?_) #[true,true,true,true,true,true,true,true,false,false,false] rfl rfl (take_ofW HT_.out HW_.out (by kernel_rfl)) (fun _ _ _ h=>h) (Or.inl ⟨by rfl,?_⟩) hHeld ?_ ?_
          rotate_left
          ·
           rintro w' ⟨s0,s1,s2,s3,s4⟩
           go_simp;with_reducible rfl
          rotate_left
          ·
           simp only[Act.put,sa',sb',sc',i64_w,i32_w];rfl
          refine pure_ (i:=8) (N:=some 30) (v:=?_) (a':=?_) #[true,true,true,true,true,true,true,true,true,false,false] rfl rfl (any_of HT_.out (by kernel_rfl)) (fun _ _ _ h=>h) (Or.inl ⟨by rfl,?_⟩) ?_ ?_
          rotate_left
          ·
           intro w';go_simp;with_reducible rfl
          rotate_left
          ·
           simp only[Act.put,sa',sb',sc',i64_w,i32_w];rfl
          refine pure_ (i:=9) (N:=some 31) (v:=?_) (a':=?_) #[true,true,true,true,true,true,true,true,true,true,false] rfl rfl (any_of HT_.out (by kernel_rfl)) (fun _ _ _ h=>h) (Or.inl ⟨by rfl,?_⟩) ?_ ?_
          rotate_left
          ·
           intro w';go_simp;with_reducible rfl
          rotate_left
          ·
           simp only[Act.put,sa',sb',sc',i64_w,i32_w];rfl
          refine last_ (i:=10) (N:=none) #[true,true,true,true,true,true,true,true,true,true,true] rfl rfl (one_of HT_.out (by kernel_rfl)) (by decide) (fun K hK=>?_);refine skip_ (w1:=?_) (by rfl) rfl ?_ ?_
          rotate_left
          ·
           go_simp;rfl
          refine hK.out _ _ ?_
          clear hK K;refine done_ (done_of HT_.out (by kernel_rfl)) ?_
          try go_wp2
          go_roundg k1
          case measure=>have:=HK1.out;omega
          case rel=>exact ⟨(wrap64 (x18_1+1)),(y178),(.slice (some ⟨go22,0,none⟩) x176000_1.length co22),(by first|rfl|(simp;done)|(simp[*];done)),H',⟨by have:=HK1.out;omega⟩,⟨by (with_reducible repeat (first|apply ra'|apply rn'|apply rw'));exact HQ24.out⟩,⟨by (with_reducible repeat (first|refine kn' ?_ _|refine kd' ?_|refine ka' ?_ _));refine blk_far ?_ (by have h_:=Kd.R_ne HO_176000.out BK167.out (by decide);intro e_;exact h_ (by rw[e_];rfl)) _;(with_reducible repeat (first|refine kn' ?_ _|refine kd' ?_|refine ka' ?_ _));exact BK167.out⟩,⟨by (with_reducible repeat (first|refine kn' ?_ _|refine kd' ?_|refine ka' ?_ _));refine blk_far ?_ (by have h_:=Kd.R_ne HO_176000.out BK168.out (by decide);intro e_;exact h_ (by rw[e_];rfl)) _;(with_reducible repeat (first|refine kn' ?_ _|refine kd' ?_|refine ka' ?_ _));exact BK168.out⟩,⟨by (with_reducible repeat (first|refine kn' ?_ _|refine kd' ?_|refine ka' ?_ _));refine blk_far ?_ (by have h_:=Kd.R_ne HO_176000.out BK175.out (by decide);intro e_;exact h_ (by rw[e_];rfl)) _;(with_reducible repeat (first|refine kn' ?_ _|refine kd' ?_|refine ka' ?_ _));exact BK175.out⟩,⟨by repeat (first|(with_reducible first|exact HB.out|apply ba'|apply bd'|apply be'|refine bs' ?_ GB22.out|refine bs' ?_ GE167.out|refine bs' ?_ GE168.out|refine bs' ?_ GE175.out)|exact HB.out)⟩⟩
         ·
          rw[if_neg c21] at H;exact absurd H (by simp)
        ·
         rw[if_neg c20] at H;exact absurd H (by simp)
       ·
        rw[if_neg c19] at H;exact absurd H (by simp)
      ·
       rw[if_neg c18] at H;exact absurd H (by simp)
     ·
      rw[if_neg c17] at H;exact absurd H (by simp)
    ·
     rw[if_neg c16] at H;have c16b0:decide (x18_1 < (l1.length:Int))=false:=decide_eq_false c16;clear c16;simp only[Option.some.injEq,Prod.mk.injEq] at H;obtain ⟨rfl,rfl⟩:=H;have hnb25:=NB175_167.out;have hnc25:=NB167_175.out;have hnb26:=NB175_168.out;have hnc26:=NB168_175.out;have hcz27_0:wr.cell? ⟨gb175,0,none⟩=some (u176000):=(blk_cell BK175.out 0).trans rfl;have hcz27_1:wr.cell? ⟨gb175,1,none⟩=some (.bool (!a0_1)):=(blk_cell BK175.out 1).trans rfl;have hfz27_0:=blk_frozen BK175.out 0;have hfz27_1:=blk_frozen BK175.out 1;obtain ⟨Ao28,co28,eo28⟩:=Kd.R_slice HO_176000.out;subst eo28;have hnb29:=NB168_167.out;have hnc29:=NB167_168.out;have hcz30_0:wr.cell? ⟨gb168,0,none⟩=some (.slice none 0 0):=(blk_cell BK168.out 0).trans rfl;have hcz30_1:wr.cell? ⟨gb168,1,none⟩=some (.bool false):=(blk_cell BK168.out 1).trans rfl;have hfz30_0:=blk_frozen BK168.out 0;have hfz30_1:=blk_frozen BK168.out 1;go_wp2;refine bodyPost_ret (results_cell_row rfl _ _ gb168 44 #[.slice Ao28 x176000_1.length co28, .bool (!a0_1)] (0,0) _ rfl (by (with_reducible repeat (first|refine kn' ?_ _|refine kd' ?_|refine ka' ?_ _));refine blk_put (cs:=#[.slice Ao28 x176000_1.length co28, .bool false]) ?_ 1 _ rfl;(with_reducible repeat (first|refine kn' ?_ _|refine kd' ?_|refine ka' ?_ _));refine blk_put (cs:=#[.slice none 0 0, .bool false]) ?_ 0 _ rfl;(with_reducible repeat (first|refine kn' ?_ _|refine kd' ?_|refine ka' ?_ _));exact BK168.out) Try.underlying44 rfl (by kernel_rfl)) rfl ?_
     exact ⟨_,by first|rfl|(simp[errW_none,errW_some] <;> rfl)|(simp[*,errW_none,errW_some] <;> rfl),by (with_reducible repeat (first|apply ra'|apply rn'|apply rw'));exact Kd.R_mono (Kd.R_far (p:=⟨gb168,1,none⟩) (Kd.R_far (p:=⟨gb168,0,none⟩) (Kd.R_types HO_176000.out BK168.out (by decide)) (fun _ hk=>hk.2) (.slice Ao28 x176000_1.length co28)) (fun _ hk=>hk.2) (.bool (!a0_1))) (fun _ hk=>trivial),by repeat (first|(with_reducible first|exact HB.out|apply ba'|apply bd'|apply be'|refine bs' ?_ GE167.out|refine bs' ?_ GE168.out|refine bs' ?_ GE175.out)|exact HB.out)⟩
 ·
  rw[if_neg c3] at H;exact absurd H (by simp)
def spec_l1Most.f (a0:Int) (a1:Int):Option (Int):=if a0 > a1 then (some a0) else (some a1)
set_option maxHeartbeats 8000000 in
set_option maxRecDepth 100000 in
theorem spec_l1Most.calls (a0:Int) (a1:Int) (r:Int) (w:World) (h:spec_l1Most.f a0 a1=some r) :
  Calls Try.prog 95 #[.int .i64 a0, .int .i64 a1] w fun e w'=>e = .returned (.int .i64 r)∧Drawn0 w w':=by
 have H:(if a0 > a1 then (some a0) else (some a1))=some r:=h
 clear h;by_cases c3:a0 > a1
 ·
  rw[if_pos c3] at H;have c3b0:decide (a1 < a0)=true:=decide_eq_true c3;clear c3;obtain rfl:=Option.some.inj H;go_enter Try.func95,Try.ntmps95;go_wp2;go_ret
  exact ⟨by first|rfl|(simp;done)|(simp[*];done),by repeat (first|exact Drawn0.refl _|apply Drawn0.step)⟩
 ·
  rw[if_neg c3] at H;have c3b0:decide (a1 < a0)=false:=decide_eq_false c3;clear c3;obtain rfl:=Option.some.inj H;go_enter Try.func95,Try.ntmps95;go_wp2;go_ret
  exact ⟨by first|rfl|(simp;done)|(simp[*];done),by repeat (first|exact Drawn0.refl _|apply Drawn0.step)⟩
def spec_paTime.l0:Nat→Int→List Int→Int→Int→List Int→Int→Option (Int)
 | 0,_,_,_,_,_,_=>none
 | k+1,x5,x8,x9,x10,x180000,x180001=>if x10 < x9 then (if 0≤x10 then (if x10 < (x8.length:Int) then (if 0≤(rd x8 x10) then (if (rd x8 x10) < (x180000.length:Int) then ((spec_l1Most.f x5 (rd x180000 (rd x8 x10))).bind fun t182=>(spec_paTime.l0 k t182 x8 x9 (wrap64 (x10+1)) x180000 x180001)) else (none)) else (none)) else (none)) else (none)) else (some x5)
def spec_paTime.f (k:Nat) (l0_0:List Int) (a0_1:Int) (l1:List Int):Option (Int):=spec_paTime.l0 k 0 l1 (l1.length:Int) 0 l0_0 a0_1
set_option maxHeartbeats 8000000 in
set_option maxRecDepth 100000 in
theorem spec_paTime.calls (k:Nat) (A0_0:Option Addr) (c0_0:Nat) (l0_0:List Int) (a0_1:Int) (A1:Option Addr) (c1:Nat) (l1:List Int) (r:Int) (w:World) (hr0_0:Kd.C (Kd.int .i64) w A0_0 l0_0.length l0_0) (hc0_0:l0_0.length≤c0_0) (hr1:Kd.C (Kd.int .i64) w A1 l1.length l1) (hc1:l1.length≤c1) (h:spec_paTime.f k l0_0 a0_1 l1=some r) :
  Calls Try.prog 102 #[.agg #[.slice A0_0 l0_0.length c0_0, .int .i64 a0_1], .slice A1 l1.length c1] w fun e w'=>e = .returned (.int .i64 r)∧Below w.heap.size w w':=by
 have hu28:=Try.underlying28
 have HR0_0:=am' hr0_0
 have HC0_0:=am' hc0_0
 clear hr0_0 hc0_0;have HR1:=am' hr1
 have HC1:=am' hc1
 clear hr1 hc1;have HB:=am' (Below.refl w.heap.size w)
 have H:(spec_paTime.l0 k 0 l1 (l1.length:Int) 0 l0_0 a0_1)=some r:=h
 clear h;have H':=am' H
 clear H;go_enter Try.func102,Try.ntmps102
 go_wp2_with (first|((with_reducible refine gate_dst (N:=2) rfl ?_);refine box_event ?hg (N:=2) ?hd (cs:=#[.slice A0_0 l0_0.length c0_0, .int .i64 a0_1]) (t:=28) ?hr ?_;(case hd=>rfl);(case hg=>rfl);(case hr=>first|(go_simp;done)|(go_simp;rfl));intro gb179 hg w3 hbox hb;have n0_:=am' (below_step (by repeat (first|(with_reducible first|exact HB.out|apply ba'|apply bd'|apply be')|exact HB.out)) hb);have n1_:=am' (hbox);have n2_:=am' ((by rw[hg];exact (below_size (by repeat (first|(with_reducible first|exact HB.out|apply ba'|apply bd'|apply be')|exact HB.out))):w.heap.size≤gb179));have n3_:=am' ((by rw[hg];exact (below_size (by repeat (first|(with_reducible first|exact HB.out|apply ba'|apply bd'|apply be')|exact HB.out))):w.heap.size≤gb179));clear HB;have HB:=n0_;have BK179:=n1_;have GW179:=n2_;have GE179:=n3_;clear n0_ n1_ n2_ n3_;clear hb hbox hg))
 go_loopg [5,10] k (fun kq v5 v10 w'=>∃ (x5_1:Int) (x10_1:Int),v5 = .int .i64 x5_1∧v10 = .int .i64 x10_1∧Aside0 (spec_paTime.l0 kq x5_1 l1 (l1.length:Int) x10_1 l0_0 a0_1=some r)∧Aside0 (kq≤k)∧Aside0 (w'.heap[gb179]? = some (.cells #[(.slice A0_0 l0_0.length c0_0), .int .i64 a0_1] 28 (0,0)))∧Aside0 (Below w.heap.size w w'))
 case atStart=>exact ⟨(0),(0),(by first|rfl|(simp;done)|(simp[*];done)),(by first|rfl|(simp;done)|(simp[*];done)),H',⟨Nat.le_refl _⟩,⟨by (with_reducible repeat (first|refine kn' ?_ _|refine kd' ?_|refine ka' ?_ _));exact BK179.out⟩,⟨by repeat (first|(with_reducible first|exact HB.out|apply ba'|apply bd'|apply be'|refine bs' ?_ GE179.out)|exact HB.out)⟩⟩
 case round =>
  clear H';try clear c1
  try clear p2
  obtain ⟨x5_1,x10_1,rfl,rfl,HA,HK1,BK179,HB⟩:=hrel;cases gk with
  | zero=>exact absurd HA.out (by simp[spec_paTime.l0])
  | succ k1 =>
   have H:=HA.out;clear HA;simp only[spec_paTime.l0] at H;by_cases c4:x10_1 < (l1.length:Int)
   ·
    rw[if_pos c4] at H;have c4b0:decide (x10_1 < (l1.length:Int))=true:=decide_eq_true c4;clear c4;by_cases c5:0≤x10_1
    ·
     rw[if_pos c5] at H;have c5b0:decide (0≤x10_1)=true:=decide_eq_true c5;clear c5;by_cases c6:x10_1 < (l1.length:Int)
     ·
      rw[if_pos c6] at H;have c6b0:decide (x10_1 < (l1.length:Int))=true:=decide_eq_true c6;clear c6;by_cases c7:0≤(rd l1 x10_1)
      ·
       rw[if_pos c7] at H;have c7b0:decide (0≤(rd l1 x10_1))=true:=decide_eq_true c7;clear c7;by_cases c8:(rd l1 x10_1) < (l0_0.length:Int)
       ·
        rw[if_pos c8] at H;have c8b0:decide ((rd l1 x10_1) < (l0_0.length:Int))=true:=decide_eq_true c8;clear c8;replace H:=Option.bind_eq_some_iff.mp H;obtain ⟨t182,A90,H⟩:=H;replace H:(spec_paTime.l0 k1 t182 l1 (l1.length:Int) (wrap64 (x10_1+1)) l0_0 a0_1)=some r:=H;have A9:=am' A90;clear A90;have H':=am' H;clear H;have p180:0≤(x10_1:Int):=of_decide_eq_true (by first|(with_reducible assumption)|assumption);have q180:x10_1 < (l1.length:Int):=of_decide_eq_true (by first|(with_reducible assumption)|assumption);obtain ⟨ad180,e180,hx180_0⟩:=Kd.at_int HR1.out x10_1 p180 q180;cases e180;replace hx180_0:=(HB.out.cell (bl' w _ hx180_0)).trans hx180_0;replace p180:=eq_true p180;replace q180:=eq_true q180;have hcz10_0:wr.cell? ⟨gb179,0,none⟩=some (.slice A0_0 l0_0.length c0_0):=(blk_cell BK179.out 0).trans rfl;have hcz10_1:wr.cell? ⟨gb179,1,none⟩=some (.int .i64 a0_1):=(blk_cell BK179.out 1).trans rfl;have hfz10_0:=blk_frozen BK179.out 0;have hfz10_1:=blk_frozen BK179.out 1;have p181:0≤((rd l1 x10_1):Int):=of_decide_eq_true (by first|(with_reducible assumption)|assumption);have q181:(rd l1 x10_1) < (l0_0.length:Int):=of_decide_eq_true (by first|(with_reducible assumption)|assumption);obtain ⟨ad181,e181,hx181_0⟩:=Kd.at_int HR0_0.out (rd l1 x10_1) p181 q181;cases e181;replace hx181_0:=(HB.out.cell (bl' w _ hx181_0)).trans hx181_0;replace p181:=eq_true p181;replace q181:=eq_true q181;go_wp2_with (first|((with_reducible refine gate_callee (f:=95) rfl ?_);refine goesL_ (some 20) rfl rfl Try.func95 (by kernel_rfl) rfl #[.int .i64 x5_1, .int .i64 (rd l0_0 (rd l1 x10_1))] rfl (by (try simp only[List.map_toArray,List.map_cons,List.map_nil]);first|done|rfl|(simp only[List.length_drop,List.length_take];rfl)) ?_;(with_reducible refine (spec_l1Most.calls x5_1 (rd l0_0 (rd l1 x10_1)) t182 _ A9.out).mono ?_);rintro e w' ⟨rfl,⟨nd,rfl⟩⟩;refine ⟨_,rfl,?_⟩));go_roundg k1
        case measure=>have:=HK1.out;omega
        case rel=>exact ⟨(t182),(wrap64 (x10_1+1)),(by first|rfl|(simp;done)|(simp[*];done)),(by first|rfl|(simp;done)|(simp[*];done)),H',⟨by have:=HK1.out;omega⟩,⟨by (with_reducible repeat (first|refine kn' ?_ _|refine kd' ?_|refine ka' ?_ _));exact BK179.out⟩,⟨by repeat (first|(with_reducible first|exact HB.out|apply ba'|apply bd'|apply be'|refine bs' ?_ GE179.out)|exact HB.out)⟩⟩
       ·
        rw[if_neg c8] at H;exact absurd H (by simp)
      ·
       rw[if_neg c7] at H;exact absurd H (by simp)
     ·
      rw[if_neg c6] at H;exact absurd H (by simp)
    ·
     rw[if_neg c5] at H;exact absurd H (by simp)
   ·
    rw[if_neg c4] at H;have c4b0:decide (x10_1 < (l1.length:Int))=false:=decide_eq_false c4;clear c4;obtain rfl:=Option.some.inj H;go_wp2;go_ret
    exact ⟨by first|rfl|(simp[errW_none,errW_some] <;> rfl)|(simp[*,errW_none,errW_some] <;> rfl),by repeat (first|(with_reducible first|exact HB.out|apply ba'|apply bd'|apply be'|refine bs' ?_ GE179.out)|exact HB.out)⟩
end Go.Proofs.Ytamljjfhkolflaa.C15
