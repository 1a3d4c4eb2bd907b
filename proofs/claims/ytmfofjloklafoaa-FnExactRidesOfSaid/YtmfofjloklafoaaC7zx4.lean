import Derived.Test.YtmfofjloklafoaaC7zx0
import Derived.Test.YtmfofjloklafoaaC7zAl
namespace Go.Proofs.Ytmfofjloklafoaa.C7
open Go.RowKit Go.Proofs.YtmfofjloklafoaaW.PrintWords Go.Proofs.YtmfofjloklafoaaW.PrintLast Go.Proofs.YtmfofjloklafoaaW.PrintMore Go.Proofs.Ytmfofjloklafoaa.H
attribute [local go_sem] max2_int min2_int max_two min_two max_three min_three max_four min_four
set_option linter.unusedVariables false
set_option linter.unusedSimpArgs false
def spec_keRide.l0:Nat→List Int→Int→Int→List Bool→Bool→List Bool→Bool→Option (List Bool × Bool)
 | 0,_,_,_,_,_,_,_=>none
 | k+1,x16,x17,x18,x158000,x158001,x166000,x166001=>if x18 < x17 then (if 0≤x18 then (if x18 < (x16.length:Int) then (if 0≤(rd x16 x18) then (if (rd x16 x18) < (x158000.length:Int) then (if (rd x16 x18) < (x166000.length:Int) then (spec_keRide.l0 k x16 x17 (wrap64 (x18+1)) x158000 x158001 (x166000.set ((rd x16 x18):Int).toNat (!(rdOf false x158000 (rd x16 x18)))) x166001) else (none)) else (none)) else (none)) else (none)) else (none)) else (some (x166000,x166001))
def spec_keRide.f (k:Nat) (l0_0:List Bool) (a0_1:Bool) (l1:List Int):Option (List Bool × Bool):=(some (([]:List Bool):List Bool)).bind fun y159=>(if y159.length+l0_0.length < 140737488355328 then (spec_keRide.l0 k l1 (l1.length:Int) 0 l0_0 a0_1 (y159 ++ l0_0) (!a0_1)) else (none))
def spec_keRide.T1:Bool × List (List Nat × List Nat):=(true,[([],[]),([],[]),([1],[1]),([0,2],[0,2]),([],[]),([4],[4]),([5],[5]),([3,6],[3,6]),([],[]),([8,7,3,0,1,2,3,4,5,6,7,8],[7,8])])
def spec_keRide.B1:List Nat:=[0,0,2,7,0,16,48,127,0,511]
theorem spec_keRide.tab1:rtab .any (opsOf Try.f76 1)=spec_keRide.T1:=by kernel_rfl
theorem spec_keRide.bits1:waitsOk spec_keRide.T1.2 spec_keRide.B1=true:=by kernel_rfl
def spec_keRide.T5:Bool × List (List Nat × List Nat):=(true,[([],[]),([0],[0]),([],[]),([],[]),([3],[3]),([],[]),([4,5],[4,5]),([6],[6]),([7],[7]),([1,2,0,1,2,3,4,5,6,7,8],[1,2]),([9,8,0,1,2,3,4,5,6,7,8],[8,9])])
def spec_keRide.B5:List Nat:=[0,1,0,0,8,0,56,120,248,511,1023]
theorem spec_keRide.tab5:rtab .any (opsOf Try.f76 5)=spec_keRide.T5:=by kernel_rfl
theorem spec_keRide.bits5:waitsOk spec_keRide.T5.2 spec_keRide.B5=true:=by kernel_rfl
set_option maxHeartbeats 8000000 in
set_option maxRecDepth 100000 in
theorem spec_keRide.calls (k:Nat) (A0_0:Option Addr) (c0_0:Nat) (l0_0:List Bool) (a0_1:Bool) (A1:Option Addr) (c1:Nat) (l1:List Int) (r1:List Bool) (r2:Bool) (w:World) (hr0_0:Kd.C Kd.bool w A0_0 l0_0.length l0_0) (hc0_0:l0_0.length≤c0_0) (hr1:Kd.C (Kd.int .i64) w A1 l1.length l1) (hc1:l1.length≤c1) (h:spec_keRide.f k l0_0 a0_1 l1=some (r1,r2)) :
  Calls Try.prog 76 #[.agg #[.slice A0_0 l0_0.length c0_0, .bool a0_1], .slice A1 l1.length c1] w fun e w'=>∃ v0_:Value,e = .returned (.agg #[v0_, .bool r2])∧Kd.R Kd.bool 4 w' w.heap.size (fun _=>True) v0_ r1∧Below w.heap.size w w':=by
 have hu34:=Try.underlying34
 have HR0_0:=am' hr0_0
 have HC0_0:=am' hc0_0
 clear hr0_0 hc0_0;have HR1:=am' hr1
 have HC1:=am' hc1
 clear hr1 hc1;have HB:=am' (Below.refl w.heap.size w)
 have H:((some (([]:List Bool):List Bool)).bind fun y159=>(if y159.length+l0_0.length < 140737488355328 then (spec_keRide.l0 k l1 (l1.length:Int) 0 l0_0 a0_1 (y159 ++ l0_0) (!a0_1)) else (none)))=some (r1,r2):=h
 clear h;obtain ⟨y159,hy159⟩:∃ y_:List Bool,y_=(([]:List Bool)):=⟨_,rfl⟩
 replace H:(if y159.length+l0_0.length < 140737488355328 then (spec_keRide.l0 k l1 (l1.length:Int) 0 l0_0 a0_1 (y159 ++ l0_0) (!a0_1)) else (none))=some (r1,r2):=by first|(rw[hy159];with_reducible exact H)|(have H2_:=(Option.bind_some _ _).symm.trans H;rw[hy159];with_reducible exact H2_)|(have H2_:=(Option.bind_some _ _).symm.trans H;with_reducible exact H2_)|with_reducible exact H|(rw[hy159];exact H)|exact H
 have Ny159:=am' hy159
 clear hy159;by_cases c3:y159.length+l0_0.length < 140737488355328
 ·
  rw[if_pos c3] at H;have LMc3:=am' c3;clear c3;obtain ⟨y162,hy162⟩:∃ y_:List Bool,y_=(y159 ++ l0_0):=⟨_,rfl⟩
  replace H:(spec_keRide.l0 k l1 (l1.length:Int) 0 l0_0 a0_1 y162 (!a0_1))=some (r1,r2):=by first|(rw[hy162];with_reducible exact H)|(have H2_:=(Option.bind_some _ _).symm.trans H;rw[hy162];with_reducible exact H2_)|(have H2_:=(Option.bind_some _ _).symm.trans H;with_reducible exact H2_)|with_reducible exact H|(rw[hy162];exact H)|exact H
  have Ny162:=am' hy162;clear hy162;have H':=am' H;clear H;go_enter Try.func76,Try.ntmps76
  try go_wp2_with (first|((with_reducible refine gate_dst (N:=2) rfl ?_);refine box_event ?hg (N:=2) ?hd (cs:=#[.slice A0_0 l0_0.length c0_0, .bool a0_1]) (t:=34) ?hr ?_;(case hd=>rfl);(case hg=>rfl);(case hr=>first|(go_simp;done)|(go_simp;rfl));intro gb157 hg w4 hbox hb;have n0_:=am' (below_step (by repeat (first|(with_reducible first|exact HB.out|apply ba'|apply bd'|apply be')|exact HB.out)) hb);have n1_:=am' (hbox);have n2_:=am' ((by rw[hg];exact (below_size (by repeat (first|(with_reducible first|exact HB.out|apply ba'|apply bd'|apply be')|exact HB.out))):w.heap.size≤gb157));have n3_:=am' ((by rw[hg];exact (below_size (by repeat (first|(with_reducible first|exact HB.out|apply ba'|apply bd'|apply be')|exact HB.out))):w.heap.size≤gb157));clear HB;have HB:=n0_;have BK157:=n1_;have GW157:=n2_;have GE157:=n3_;clear n0_ n1_ n2_ n3_;clear hb hbox hg)|((with_reducible refine gate_dst (N:=4) rfl ?_);refine box_event ?hg (N:=4) ?hd (cs:=#[.slice none 0 0, .bool false]) (t:=34) ?hr ?_;(case hd=>rfl);(case hg=>rfl);(case hr=>first|(go_simp;done)|(go_simp;rfl));intro gb158 hg w5 hbox hb;have n0_:=am' (blk_below (g:=gb157) (o := .cells #[.slice A0_0 l0_0.length c0_0, .bool a0_1] 34 (0,0)) (by (with_reducible repeat (first|refine kn' ?_ _|refine kd' ?_|refine ka' ?_ _));exact BK157.out) hb);have n1_:=am' (below_step (by repeat (first|(with_reducible first|exact HB.out|apply ba'|apply bd'|apply be'|refine bs' ?_ GE157.out)|exact HB.out)) hb);have n2_:=am' (hbox);have n3_:=am' ((by rw[hg];exact (below_size (by repeat (first|(with_reducible first|exact HB.out|apply ba'|apply bd'|apply be'|refine bs' ?_ GE157.out)|exact HB.out))):w.heap.size≤gb158));have n4_:=am' ((by rw[hg];exact (below_size (by repeat (first|(with_reducible first|exact HB.out|apply ba'|apply bd'|apply be'|refine bs' ?_ GE157.out)|exact HB.out))):w.heap.size≤gb158));have n5_:=am' ((by rw[hg];exact Nat.ne_of_lt (blk_lt (g:=gb157) (o := .cells #[.slice A0_0 l0_0.length c0_0, .bool a0_1] 34 (0,0)) (by (with_reducible repeat (first|refine kn' ?_ _|refine kd' ?_|refine ka' ?_ _));exact BK157.out)):gb157≠gb158));have n6_:=am' ((by rw[hg];exact Nat.ne_of_gt (blk_lt (g:=gb157) (o := .cells #[.slice A0_0 l0_0.length c0_0, .bool a0_1] 34 (0,0)) (by (with_reducible repeat (first|refine kn' ?_ _|refine kd' ?_|refine ka' ?_ _));exact BK157.out)):gb158≠gb157));clear BK157;clear HB;have BK157:=n0_;have HB:=n1_;have BK158:=n2_;have GW158:=n3_;have GE158:=n4_;have NB157_158:=n5_;have NB158_157:=n6_;clear n0_ n1_ n2_ n3_ n4_ n5_ n6_;clear hb hbox hg))
  have n0_:=am' (kd' BK157.out);have n1_:=am' (kd' BK158.out);have n2_:=am' (be' HB.out);clear BK157;clear BK158;clear HB;have BK157:=n0_;have BK158:=n1_;have HB:=n2_;clear n0_ n1_ n2_;refine start_ (n:=10) (S:=fun w'=>w'.cell? ⟨gb157,0,none⟩=some (.slice A0_0 l0_0.length c0_0)∧w'.cell? ⟨gb157,1,none⟩=some (.bool a0_1)) (ds:=[]) #[false,false,false,false,false,false,false,false,false,false] (by kernel_rfl) rfl rfl ⟨(blk_cell BK157.out 0).trans rfl,(blk_cell BK157.out 1).trans rfl⟩ (fun hHeld=>?_);refine with_tabW spec_keRide.tab1 spec_keRide.bits1 (fun HT_ HW_=>?_);generalize w5.drew=w6 at BK157 BK158 HB hHeld ⊢
  refine pure_ (i:=1) (N:=some 9) (v:=?_) (a':=?_) #[false,true,false,false,false,false,false,false,false,false] rfl rfl (any_of HT_.out (by kernel_rfl)) (fun _ _ _ h=>h) (Or.inl ⟨by rfl,?_⟩) ?_ ?_
  rotate_left
  ·
   intro w';go_simp;with_reducible rfl
  rotate_left
  ·
   simp only[Act.put,sa',sb',sc',i64_w,i32_w];rfl
  refine pure_ (i:=4) (N:=some 12) (v:=?_) (a':=?_) #[false,true,false,false,true,false,false,false,false,false] rfl rfl (any_of HT_.out (by kernel_rfl)) (fun _ _ _ h=>h) (Or.inl ⟨by rfl,?_⟩) ?_ ?_
  rotate_left
  ·
   intro w';go_simp;with_reducible rfl
  rotate_left
  ·
   simp only[Act.put,sa',sb',sc',i64_w,i32_w];rfl
  refine take_ (i:=2) (N:=some 10) (v:=?_) (a':=?_) #[false,true,true,false,true,false,false,false,false,false] rfl rfl (take_ofW HT_.out HW_.out (by kernel_rfl)) (fun _ _ _ h=>h) (Or.inl ⟨by rfl,?_⟩) hHeld ?_ ?_
  rotate_left
  ·
   rintro w' ⟨s0,s1⟩
   go_simp;with_reducible rfl
  rotate_left
  ·
   simp only[Act.put,sa',sb',sc',i64_w,i32_w];rfl
  refine take_ (i:=5) (N:=some 13) (v:=?_) (a':=?_) #[false,true,true,false,true,true,false,false,false,false] rfl rfl (take_ofW HT_.out HW_.out (by kernel_rfl)) (fun _ _ _ h=>h) (Or.inl ⟨by rfl,?_⟩) hHeld ?_ ?_
  rotate_left
  ·
   rintro w' ⟨s0,s1⟩
   go_simp;with_reducible rfl
  rotate_left
  ·
   simp only[Act.put,sa',sb',sc',i64_w,i32_w];rfl
  refine pure_ (i:=6) (N:=some 14) (v:=?_) (a':=?_) #[false,true,true,false,true,true,true,false,false,false] rfl rfl (any_of HT_.out (by kernel_rfl)) (fun _ _ _ h=>h) (Or.inl ⟨by rfl,?_⟩) ?_ ?_
  rotate_left
  ·
   intro w';go_simp;with_reducible rfl
  rotate_left
  ·
   simp only[Act.put,sa',sb',sc',i64_w,i32_w];rfl
  refine join_ (σ:=Value × Value × Nat) 1 #[true,true,true,true,true,true,true,true,true,false] (fun s_=>[(8,s_.1),(11,s_.2.1),(5, .pointer (some ⟨s_.2.2,0,none⟩)),(15, .agg #[s_.2.1, .bool (!a0_1)])]) (fun s_ w'=>(w'.cell? ⟨gb157,0,none⟩=some (.slice A0_0 l0_0.length c0_0)∧w'.cell? ⟨gb157,1,none⟩=some (.bool a0_1))∧(Kd.R Kd.bool 4 w' w.heap.size (fun _=>True) s_.2.1 y162)∧(w'.heap[gb157]? = some (.cells #[.slice A0_0 l0_0.length c0_0, .bool a0_1] 34 (0,0)))∧(w'.heap[gb158]? = some (.cells #[.slice none 0 0, .bool false] 34 (0,0)))∧(w'.heap[s_.2.2]? = some (.cells #[.slice none 0 0, .bool false] 34 (0,0)))∧(w.heap.size≤s_.2.2)∧(w.heap.size≤s_.2.2)∧(gb157≠s_.2.2)∧(s_.2.2≠gb157)∧(gb158≠s_.2.2)∧(s_.2.2≠gb158)∧(Below w.heap.size w w')) ?_ ?_
  rotate_left
  ·
   intro hCont;refine two_ (i:=0) (j:=8) (Ni:=some 8) (Nj:=some 5) #[true,true,true,false,true,true,true,false,false,false] #[false,true,true,false,true,true,true,false,true,false] rfl rfl rfl rfl (two_of HT_.out (by kernel_rfl)) (by decide) (by decide) (fun K hK=>?_) (fun K hK=>?_)
   ·
    skip
    refine Kd.R_lit_step Kd.bool _ 4 ?hg (N:=8) ?hd (xs:=([]:List Bool)) (inner:=[]) (ok:=fun _=>True) (okp:=fun _=>True) ?hr ?hp (fun _ hk=>hk) trivial (Below.refl _ _) (Nat.le_refl _) (by simp) ?_;(case hd=>rfl);(case hg=>rfl);(case hr=>first|(go_simp;done)|(go_simp;rfl));(case hp=>exact (Reps.none _ _))
    intro v160 w7 ho8 hb hg_ hnew_;clear hg_ hnew_;(first|rw[← Ny159.out] at ho8|(simp only[Int.reduceToNat] at ho8;rw[← Ny159.out] at ho8))
    have n0_:=am' (Kd.R_lower ho8 (below_size (by repeat (first|(with_reducible first|exact HB.out|apply ba'|apply bd'|apply be'|refine bs' ?_ GE157.out|refine bs' ?_ GE158.out)|exact HB.out))));have n1_:=am' (blk_below (g:=gb157) (o := .cells #[.slice A0_0 l0_0.length c0_0, .bool a0_1] 34 (0,0)) (by (with_reducible repeat (first|refine kn' ?_ _|refine kd' ?_|refine ka' ?_ _));exact BK157.out) hb);have n2_:=am' (blk_below (g:=gb158) (o := .cells #[.slice none 0 0, .bool false] 34 (0,0)) (by (with_reducible repeat (first|refine kn' ?_ _|refine kd' ?_|refine ka' ?_ _));exact BK158.out) hb);have n3_:=am' (below_step (by repeat (first|(with_reducible first|exact HB.out|apply ba'|apply bd'|apply be'|refine bs' ?_ GE157.out|refine bs' ?_ GE158.out)|exact HB.out)) hb);clear BK157;clear BK158;clear HB;have HO161:=n0_;have BK157:=n1_;have BK158:=n2_;have HB:=n3_;clear n0_ n1_ n2_ n3_;clear hb ho8;refine hK.out _ _ ⟨(blk_cell BK157.out 0).trans rfl,(blk_cell BK157.out 1).trans rfl⟩ (fun hHeld=>?_);clear hK K;refine norm_ (a':=?_) ?_ ?_
    rotate_left
    ·
     show Act.put _ (some 8) _=_
     simp only[Act.put,sa',sb',sc',i64_w,i32_w];rfl
    refine two_ (i:=3) (j:=8) (Ni:=some 11) (Nj:=some 5) #[true,true,true,true,true,true,true,false,false,false] #[true,true,true,false,true,true,true,false,true,false] rfl rfl rfl rfl (two_of HT_.out (by kernel_rfl)) (by decide) (by decide) (fun K hK=>?_) (fun K hK=>?_)
    ·
     skip
     refine Kd.R_append_rows_step Kd.bool (w0:=w) w.heap.size (by rfl) (.tmp 8) (.tmp 10) 25 4 (.bool false) 1 rfl Try.underlying25 info4 rfl (by decide) (by omega) v160 y159 l0_0 _ _ _ (fun _=>True) (fun _=>False) rfl rfl ?aO ?aR (fun _ _ h=>h) (fun _ h=>h.elim) ?aF ?aB ?aS ?aL ?_
     (case aR=>repeat (first|exact (Kd.C_below HR0_0.out HB.out)|(with_reducible refine ca' ?_ _)|(with_reducible refine cn' ?_ _)|(with_reducible refine cd' ?_)))
     (case aB=>exact (by repeat (first|(with_reducible first|exact HB.out|apply ba'|apply bd'|apply be'|refine bs' ?_ GE157.out|refine bs' ?_ GE158.out)|exact HB.out)))
     (case aF=>exact (fun _ _=>trivial))
     (case aO=>exact (by (with_reducible repeat (first|apply ra'|apply rn'|apply rw'));exact HO161.out))
     (case aS=>exact (below_size (by repeat (first|(with_reducible first|exact HB.out|apply ba'|apply bd'|apply be'|refine bs' ?_ GE157.out|refine bs' ?_ GE158.out)|exact HB.out))))
     (case aL=>have:=LMc3.out;omega)
     intro v163 w9 ho hb hg hat;rw[← Ny162.out] at ho;have n0_:=am' (blk_grown (g:=gb157) (o := .cells #[.slice A0_0 l0_0.length c0_0, .bool a0_1] 34 (0,0)) (by (with_reducible repeat (first|refine kn' ?_ _|refine kd' ?_|refine ka' ?_ _));exact BK157.out) hg (Kd.R_ne HO161.out BK157.out (by decide)));have n1_:=am' (blk_grown (g:=gb158) (o := .cells #[.slice none 0 0, .bool false] 34 (0,0)) (by (with_reducible repeat (first|refine kn' ?_ _|refine kd' ?_|refine ka' ?_ _));exact BK158.out) hg (Kd.R_ne HO161.out BK158.out (by decide)));have n2_:=am' (hb);have n3_:=am' (ho);clear BK157;clear BK158;clear HB;clear HO161;have BK157:=n0_;have BK158:=n1_;have HB:=n2_;have HO164:=n3_;clear n0_ n1_ n2_ n3_;clear ho hb hg hat;obtain ⟨Ao10,co10,eo10⟩:=Kd.R_slice HO164.out
     (first|subst eo10|(injection eo10 with f1_ f2_ f3_;have f4_:=f1_.symm;have f5_:=f3_.symm;clear f1_ f2_ f3_;subst f4_;subst f5_))
     refine hK.out _ _ ⟨(blk_cell BK157.out 0).trans rfl,(blk_cell BK157.out 1).trans rfl⟩ (fun hHeld=>?_);clear hK K;refine norm_ (a':=?_) ?_ ?_
     rotate_left
     ·
      show Act.put _ (some 11) _=_
      simp only[Act.put,sa',sb',sc',i64_w,i32_w];rfl
     refine pure_ (i:=7) (N:=some 15) (v:=?_) (a':=?_) #[true,true,true,true,true,true,true,true,false,false] rfl rfl (any_of HT_.out (by kernel_rfl)) (fun _ _ _ h=>h) (Or.inl ⟨by rfl,?_⟩) ?_ ?_
     rotate_left
     ·
      intro w';go_simp;with_reducible rfl
     rotate_left
     ·
      simp only[Act.put,sa',sb',sc',i64_w,i32_w];rfl
     refine one_ (i:=8) (N:=some 5) #[true,true,true,true,true,true,true,true,true,false] rfl rfl (one_of HT_.out (by kernel_rfl)) (by decide) (fun K hK=>?_);refine box_step ?hg (N:=5) ?hd (cs:=#[.slice none 0 0, .bool false]) (t:=34) ?hr ?_;(case hd=>rfl);(case hg=>rfl);(case hr=>first|(go_simp;done)|(go_simp;rfl))
     intro gb165 hg w11 hbox hb;have n0_:=am' (Kd.R_below (by (with_reducible repeat (first|apply ra'|apply rn'|apply rw'));exact HO164.out) hb);have n1_:=am' (blk_below (g:=gb157) (o := .cells #[.slice A0_0 l0_0.length c0_0, .bool a0_1] 34 (0,0)) (by (with_reducible repeat (first|refine kn' ?_ _|refine kd' ?_|refine ka' ?_ _));exact BK157.out) hb);have n2_:=am' (blk_below (g:=gb158) (o := .cells #[.slice none 0 0, .bool false] 34 (0,0)) (by (with_reducible repeat (first|refine kn' ?_ _|refine kd' ?_|refine ka' ?_ _));exact BK158.out) hb);have n3_:=am' (below_step (by repeat (first|(with_reducible first|exact HB.out|apply ba'|apply bd'|apply be'|refine bs' ?_ GE157.out|refine bs' ?_ GE158.out)|exact HB.out)) hb);have n4_:=am' (hbox);have n5_:=am' ((by rw[hg];exact (below_size (by repeat (first|(with_reducible first|exact HB.out|apply ba'|apply bd'|apply be'|refine bs' ?_ GE157.out|refine bs' ?_ GE158.out)|exact HB.out))):w.heap.size≤gb165));have n6_:=am' ((by rw[hg];exact (below_size (by repeat (first|(with_reducible first|exact HB.out|apply ba'|apply bd'|apply be'|refine bs' ?_ GE157.out|refine bs' ?_ GE158.out)|exact HB.out))):w.heap.size≤gb165));have n7_:=am' ((by rw[hg];exact Nat.ne_of_lt (blk_lt (g:=gb157) (o := .cells #[.slice A0_0 l0_0.length c0_0, .bool a0_1] 34 (0,0)) (by (with_reducible repeat (first|refine kn' ?_ _|refine kd' ?_|refine ka' ?_ _));exact BK157.out)):gb157≠gb165));have n8_:=am' ((by rw[hg];exact Nat.ne_of_gt (blk_lt (g:=gb157) (o := .cells #[.slice A0_0 l0_0.length c0_0, .bool a0_1] 34 (0,0)) (by (with_reducible repeat (first|refine kn' ?_ _|refine kd' ?_|refine ka' ?_ _));exact BK157.out)):gb165≠gb157));have n9_:=am' ((by rw[hg];exact Nat.ne_of_lt (blk_lt (g:=gb158) (o := .cells #[.slice none 0 0, .bool false] 34 (0,0)) (by (with_reducible repeat (first|refine kn' ?_ _|refine kd' ?_|refine ka' ?_ _));exact BK158.out)):gb158≠gb165));have n10_:=am' ((by rw[hg];exact Nat.ne_of_gt (blk_lt (g:=gb158) (o := .cells #[.slice none 0 0, .bool false] 34 (0,0)) (by (with_reducible repeat (first|refine kn' ?_ _|refine kd' ?_|refine ka' ?_ _));exact BK158.out)):gb165≠gb158));clear HO164;clear BK157;clear BK158;clear HB;have HO164:=n0_;have BK157:=n1_;have BK158:=n2_;have HB:=n3_;have BK165:=n4_;have GW165:=n5_;have GE165:=n6_;have NB157_165:=n7_;have NB165_157:=n8_;have NB158_165:=n9_;have NB165_158:=n10_;clear n0_ n1_ n2_ n3_ n4_ n5_ n6_ n7_ n8_ n9_ n10_;clear hb hbox hg;refine hK.out _ _ ⟨(blk_cell BK157.out 0).trans rfl,(blk_cell BK157.out 1).trans rfl⟩ (fun hHeld=>?_);clear hK K;refine norm_ (a':=?_) ?_ ?_
     rotate_left
     ·
      show Act.put _ (some 5) _=_
      simp only[Act.put,sa',sb',sc',i64_w,i32_w];rfl
     exact norm_ (by simp only[putAll,Act.put,sa',sb',sc']) (hCont (v160, .slice Ao10 y162.length co10,gb165) _ ⟨hHeld,(by (with_reducible repeat (first|apply ra'|apply rn'|apply rw'));exact HO164.out),(by (with_reducible repeat (first|refine kn' ?_ _|refine kd' ?_|refine ka' ?_ _));exact BK157.out),(by (with_reducible repeat (first|refine kn' ?_ _|refine kd' ?_|refine ka' ?_ _));exact BK158.out),(by (with_reducible repeat (first|refine kn' ?_ _|refine kd' ?_|refine ka' ?_ _));exact BK165.out),GW165.out,GE165.out,NB157_165.out,NB165_157.out,NB158_165.out,NB165_158.out,(by repeat (first|(with_reducible first|exact HB.out|apply ba'|apply bd'|apply be'|refine bs' ?_ GE157.out|refine bs' ?_ GE158.out|refine bs' ?_ GE165.out)|exact HB.out))⟩)
    ·
     skip
     refine box_step ?hg (N:=5) ?hd (cs:=#[.slice none 0 0, .bool false]) (t:=34) ?hr ?_;(case hd=>rfl);(case hg=>rfl);(case hr=>first|(go_simp;done)|(go_simp;rfl))
     intro gb165 hg w9 hbox hb;have n0_:=am' (Kd.R_below (by (with_reducible repeat (first|apply ra'|apply rn'|apply rw'));exact HO161.out) hb);have n1_:=am' (blk_below (g:=gb157) (o := .cells #[.slice A0_0 l0_0.length c0_0, .bool a0_1] 34 (0,0)) (by (with_reducible repeat (first|refine kn' ?_ _|refine kd' ?_|refine ka' ?_ _));exact BK157.out) hb);have n2_:=am' (blk_below (g:=gb158) (o := .cells #[.slice none 0 0, .bool false] 34 (0,0)) (by (with_reducible repeat (first|refine kn' ?_ _|refine kd' ?_|refine ka' ?_ _));exact BK158.out) hb);have n3_:=am' (below_step (by repeat (first|(with_reducible first|exact HB.out|apply ba'|apply bd'|apply be'|refine bs' ?_ GE157.out|refine bs' ?_ GE158.out)|exact HB.out)) hb);have n4_:=am' (hbox);have n5_:=am' ((by rw[hg];exact (below_size (by repeat (first|(with_reducible first|exact HB.out|apply ba'|apply bd'|apply be'|refine bs' ?_ GE157.out|refine bs' ?_ GE158.out)|exact HB.out))):w.heap.size≤gb165));have n6_:=am' ((by rw[hg];exact (below_size (by repeat (first|(with_reducible first|exact HB.out|apply ba'|apply bd'|apply be'|refine bs' ?_ GE157.out|refine bs' ?_ GE158.out)|exact HB.out))):w.heap.size≤gb165));have n7_:=am' ((by rw[hg];exact Nat.ne_of_lt (blk_lt (g:=gb157) (o := .cells #[.slice A0_0 l0_0.length c0_0, .bool a0_1] 34 (0,0)) (by (with_reducible repeat (first|refine kn' ?_ _|refine kd' ?_|refine ka' ?_ _));exact BK157.out)):gb157≠gb165));have n8_:=am' ((by rw[hg];exact Nat.ne_of_gt (blk_lt (g:=gb157) (o := .cells #[.slice A0_0 l0_0.length c0_0, .bool a0_1] 34 (0,0)) (by (with_reducible repeat (first|refine kn' ?_ _|refine kd' ?_|refine ka' ?_ _));exact BK157.out)):gb165≠gb157));have n9_:=am' ((by rw[hg];exact Nat.ne_of_lt (blk_lt (g:=gb158) (o := .cells #[.slice none 0 0, .bool false] 34 (0,0)) (by (with_reducible repeat (first|refine kn' ?_ _|refine kd' ?_|refine ka' ?_ _));exact BK158.out)):gb158≠gb165));have n10_:=am' ((by rw[hg];exact Nat.ne_of_gt (blk_lt (g:=gb158) (o := .cells #[.slice none 0 0, .bool false] 34 (0,0)) (by (with_reducible repeat (first|refine kn' ?_ _|refine kd' ?_|refine ka' ?_ _));exact BK158.out)):gb165≠gb158));clear HO161;clear BK157;clear BK158;clear HB;have HO161:=n0_;have BK157:=n1_;have BK158:=n2_;have HB:=n3_;have BK165:=n4_;have GW165:=n5_;have GE165:=n6_;have NB157_165:=n7_;have NB165_157:=n8_;have NB158_165:=n9_;have NB165_158:=n10_;clear n0_ n1_ n2_ n3_ n4_ n5_ n6_ n7_ n8_ n9_ n10_;clear hb hbox hg;refine hK.out _ _ ⟨(blk_cell BK157.out 0).trans rfl,(blk_cell BK157.out 1).trans rfl⟩ (fun hHeld=>?_);clear hK K;refine norm_ (a':=?_) ?_ ?_
     rotate_left
     ·
      show Act.put _ (some 5) _=_
      simp only[Act.put,sa',sb',sc',i64_w,i32_w];rfl
     refine one_ (i:=3) (N:=some 11) #[true,true,true,true,true,true,true,false,true,false] rfl rfl (one_of HT_.out (by kernel_rfl)) (by decide) (fun K hK=>?_);refine Kd.R_append_rows_step Kd.bool (w0:=w) w.heap.size (by rfl) (.tmp 8) (.tmp 10) 25 4 (.bool false) 1 rfl Try.underlying25 info4 rfl (by decide) (by omega) v160 y159 l0_0 _ _ _ (fun _=>True) (fun _=>False) rfl rfl ?aO ?aR (fun _ _ h=>h) (fun _ h=>h.elim) ?aF ?aB ?aS ?aL ?_
     (case aR=>repeat (first|exact (Kd.C_below HR0_0.out HB.out)|(with_reducible refine ca' ?_ _)|(with_reducible refine cn' ?_ _)|(with_reducible refine cd' ?_)))
     (case aB=>exact (by repeat (first|(with_reducible first|exact HB.out|apply ba'|apply bd'|apply be'|refine bs' ?_ GE157.out|refine bs' ?_ GE158.out|refine bs' ?_ GE165.out)|exact HB.out)))
     (case aF=>exact (fun _ _=>trivial))
     (case aO=>exact (by (with_reducible repeat (first|apply ra'|apply rn'|apply rw'));exact HO161.out))
     (case aS=>exact (below_size (by repeat (first|(with_reducible first|exact HB.out|apply ba'|apply bd'|apply be'|refine bs' ?_ GE157.out|refine bs' ?_ GE158.out|refine bs' ?_ GE165.out)|exact HB.out))))
     (case aL=>have:=LMc3.out;omega)
     intro v163 w10 ho hb hg hat;rw[← Ny162.out] at ho;have n0_:=am' (blk_grown (g:=gb157) (o := .cells #[.slice A0_0 l0_0.length c0_0, .bool a0_1] 34 (0,0)) (by (with_reducible repeat (first|refine kn' ?_ _|refine kd' ?_|refine ka' ?_ _));exact BK157.out) hg (Kd.R_ne HO161.out BK157.out (by decide)));have n1_:=am' (blk_grown (g:=gb158) (o := .cells #[.slice none 0 0, .bool false] 34 (0,0)) (by (with_reducible repeat (first|refine kn' ?_ _|refine kd' ?_|refine ka' ?_ _));exact BK158.out) hg (Kd.R_ne HO161.out BK158.out (by decide)));have n2_:=am' (blk_grown (g:=gb165) (o := .cells #[.slice none 0 0, .bool false] 34 (0,0)) (by (with_reducible repeat (first|refine kn' ?_ _|refine kd' ?_|refine ka' ?_ _));exact BK165.out) hg (Kd.R_ne HO161.out BK165.out (by decide)));have n3_:=am' (hb);have n4_:=am' (ho);clear BK157;clear BK158;clear BK165;clear HB;clear HO161;have BK157:=n0_;have BK158:=n1_;have BK165:=n2_;have HB:=n3_;have HO164:=n4_;clear n0_ n1_ n2_ n3_ n4_;clear ho hb hg hat;obtain ⟨Ao11,co11,eo11⟩:=Kd.R_slice HO164.out
     (first|subst eo11|(injection eo11 with f1_ f2_ f3_;have f4_:=f1_.symm;have f5_:=f3_.symm;clear f1_ f2_ f3_;subst f4_;subst f5_))
     refine hK.out _ _ ⟨(blk_cell BK157.out 0).trans rfl,(blk_cell BK157.out 1).trans rfl⟩ (fun hHeld=>?_);clear hK K;refine norm_ (a':=?_) ?_ ?_
     rotate_left
     ·
      show Act.put _ (some 11) _=_
      simp only[Act.put,sa',sb',sc',i64_w,i32_w];rfl
     refine pure_ (i:=7) (N:=some 15) (v:=?_) (a':=?_) #[true,true,true,true,true,true,true,true,true,false] rfl rfl (any_of HT_.out (by kernel_rfl)) (fun _ _ _ h=>h) (Or.inl ⟨by rfl,?_⟩) ?_ ?_
     rotate_left
     ·
      intro w';go_simp;with_reducible rfl
     rotate_left
     ·
      simp only[Act.put,sa',sb',sc',i64_w,i32_w];rfl
     exact norm_ (by simp only[putAll,Act.put,sa',sb',sc']) (hCont (v160, .slice Ao11 y162.length co11,gb165) _ ⟨hHeld,(by (with_reducible repeat (first|apply ra'|apply rn'|apply rw'));exact HO164.out),(by (with_reducible repeat (first|refine kn' ?_ _|refine kd' ?_|refine ka' ?_ _));exact BK157.out),(by (with_reducible repeat (first|refine kn' ?_ _|refine kd' ?_|refine ka' ?_ _));exact BK158.out),(by (with_reducible repeat (first|refine kn' ?_ _|refine kd' ?_|refine ka' ?_ _));exact BK165.out),GW165.out,GE165.out,NB157_165.out,NB165_157.out,NB158_165.out,NB165_158.out,(by repeat (first|(with_reducible first|exact HB.out|apply ba'|apply bd'|apply be'|refine bs' ?_ GE157.out|refine bs' ?_ GE158.out|refine bs' ?_ GE165.out)|exact HB.out))⟩)
   ·
    skip
    refine box_step ?hg (N:=5) ?hd (cs:=#[.slice none 0 0, .bool false]) (t:=34) ?hr ?_;(case hd=>rfl);(case hg=>rfl);(case hr=>first|(go_simp;done)|(go_simp;rfl))
    intro gb165 hg w7 hbox hb;have n0_:=am' (blk_below (g:=gb157) (o := .cells #[.slice A0_0 l0_0.length c0_0, .bool a0_1] 34 (0,0)) (by (with_reducible repeat (first|refine kn' ?_ _|refine kd' ?_|refine ka' ?_ _));exact BK157.out) hb);have n1_:=am' (blk_below (g:=gb158) (o := .cells #[.slice none 0 0, .bool false] 34 (0,0)) (by (with_reducible repeat (first|refine kn' ?_ _|refine kd' ?_|refine ka' ?_ _));exact BK158.out) hb);have n2_:=am' (below_step (by repeat (first|(with_reducible first|exact HB.out|apply ba'|apply bd'|apply be'|refine bs' ?_ GE157.out|refine bs' ?_ GE158.out)|exact HB.out)) hb);have n3_:=am' (hbox);have n4_:=am' ((by rw[hg];exact (below_size (by repeat (first|(with_reducible first|exact HB.out|apply ba'|apply bd'|apply be'|refine bs' ?_ GE157.out|refine bs' ?_ GE158.out)|exact HB.out))):w.heap.size≤gb165));have n5_:=am' ((by rw[hg];exact (below_size (by repeat (first|(with_reducible first|exact HB.out|apply ba'|apply bd'|apply be'|refine bs' ?_ GE157.out|refine bs' ?_ GE158.out)|exact HB.out))):w.heap.size≤gb165));have n6_:=am' ((by rw[hg];exact Nat.ne_of_lt (blk_lt (g:=gb157) (o := .cells #[.slice A0_0 l0_0.length c0_0, .bool a0_1] 34 (0,0)) (by (with_reducible repeat (first|refine kn' ?_ _|refine kd' ?_|refine ka' ?_ _));exact BK157.out)):gb157≠gb165));have n7_:=am' ((by rw[hg];exact Nat.ne_of_gt (blk_lt (g:=gb157) (o := .cells #[.slice A0_0 l0_0.length c0_0, .bool a0_1] 34 (0,0)) (by (with_reducible repeat (first|refine kn' ?_ _|refine kd' ?_|refine ka' ?_ _));exact BK157.out)):gb165≠gb157));have n8_:=am' ((by rw[hg];exact Nat.ne_of_lt (blk_lt (g:=gb158) (o := .cells #[.slice none 0 0, .bool false] 34 (0,0)) (by (with_reducible repeat (first|refine kn' ?_ _|refine kd' ?_|refine ka' ?_ _));exact BK158.out)):gb158≠gb165));have n9_:=am' ((by rw[hg];exact Nat.ne_of_gt (blk_lt (g:=gb158) (o := .cells #[.slice none 0 0, .bool false] 34 (0,0)) (by (with_reducible repeat (first|refine kn' ?_ _|refine kd' ?_|refine ka' ?_ _));exact BK158.out)):gb165≠gb158));clear BK157;clear BK158;clear HB;have BK157:=n0_;have BK158:=n1_;have HB:=n2_;have BK165:=n3_;have GW165:=n4_;have GE165:=n5_;have NB157_165:=n6_;have NB165_157:=n7_;have NB158_165:=n8_;have NB165_158:=n9_;clear n0_ n1_ n2_ n3_ n4_ n5_ n6_ n7_ n8_ n9_;clear hb hbox hg;refine hK.out _ _ ⟨(blk_cell BK157.out 0).trans rfl,(blk_cell BK157.out 1).trans rfl⟩ (fun hHeld=>?_);clear hK K;refine norm_ (a':=?_) ?_ ?_
    rotate_left
    ·
     show Act.put _ (some 5) _=_
     simp only[Act.put,sa',sb',sc',i64_w,i32_w];rfl
    refine one_ (i:=0) (N:=some 8) #[true,true,true,false,true,true,true,false,true,false] rfl rfl (one_of HT_.out (by kernel_rfl)) (by decide) (fun K hK=>?_);refine Kd.R_lit_step Kd.bool _ 4 ?hg (N:=8) ?hd (xs:=([]:List Bool)) (inner:=[]) (ok:=fun _=>True) (okp:=fun _=>True) ?hr ?hp (fun _ hk=>hk) trivial (Below.refl _ _) (Nat.le_refl _) (by simp) ?_;(case hd=>rfl);(case hg=>rfl);(case hr=>first|(go_simp;done)|(go_simp;rfl));(case hp=>exact (Reps.none _ _))
    intro v160 w8 ho9 hb hg_ hnew_;clear hg_ hnew_;(first|rw[← Ny159.out] at ho9|(simp only[Int.reduceToNat] at ho9;rw[← Ny159.out] at ho9))
    have n0_:=am' (Kd.R_lower ho9 (below_size (by repeat (first|(with_reducible first|exact HB.out|apply ba'|apply bd'|apply be'|refine bs' ?_ GE157.out|refine bs' ?_ GE158.out|refine bs' ?_ GE165.out)|exact HB.out))));have n1_:=am' (blk_below (g:=gb157) (o := .cells #[.slice A0_0 l0_0.length c0_0, .bool a0_1] 34 (0,0)) (by (with_reducible repeat (first|refine kn' ?_ _|refine kd' ?_|refine ka' ?_ _));exact BK157.out) hb);have n2_:=am' (blk_below (g:=gb158) (o := .cells #[.slice none 0 0, .bool false] 34 (0,0)) (by (with_reducible repeat (first|refine kn' ?_ _|refine kd' ?_|refine ka' ?_ _));exact BK158.out) hb);have n3_:=am' (blk_below (g:=gb165) (o := .cells #[.slice none 0 0, .bool false] 34 (0,0)) (by (with_reducible repeat (first|refine kn' ?_ _|refine kd' ?_|refine ka' ?_ _));exact BK165.out) hb);have n4_:=am' (below_step (by repeat (first|(with_reducible first|exact HB.out|apply ba'|apply bd'|apply be'|refine bs' ?_ GE157.out|refine bs' ?_ GE158.out|refine bs' ?_ GE165.out)|exact HB.out)) hb);clear BK157;clear BK158;clear BK165;clear HB;have HO161:=n0_;have BK157:=n1_;have BK158:=n2_;have BK165:=n3_;have HB:=n4_;clear n0_ n1_ n2_ n3_ n4_;clear hb ho9;refine hK.out _ _ ⟨(blk_cell BK157.out 0).trans rfl,(blk_cell BK157.out 1).trans rfl⟩ (fun hHeld=>?_);clear hK K;refine norm_ (a':=?_) ?_ ?_
    rotate_left
    ·
     show Act.put _ (some 8) _=_
     simp only[Act.put,sa',sb',sc',i64_w,i32_w];rfl
    refine one_ (i:=3) (N:=some 11) #[true,true,true,true,true,true,true,false,true,false] rfl rfl (one_of HT_.out (by kernel_rfl)) (by decide) (fun K hK=>?_);refine Kd.R_append_rows_step Kd.bool (w0:=w) w.heap.size (by rfl) (.tmp 8) (.tmp 10) 25 4 (.bool false) 1 rfl Try.underlying25 info4 rfl (by decide) (by omega) v160 y159 l0_0 _ _ _ (fun _=>True) (fun _=>False) rfl rfl ?aO ?aR (fun _ _ h=>h) (fun _ h=>h.elim) ?aF ?aB ?aS ?aL ?_
    (case aR=>repeat (first|exact (Kd.C_below HR0_0.out HB.out)|(with_reducible refine ca' ?_ _)|(with_reducible refine cn' ?_ _)|(with_reducible refine cd' ?_)))
    (case aB=>exact (by repeat (first|(with_reducible first|exact HB.out|apply ba'|apply bd'|apply be'|refine bs' ?_ GE157.out|refine bs' ?_ GE158.out|refine bs' ?_ GE165.out)|exact HB.out)))
    (case aF=>exact (fun _ _=>trivial))
    (case aO=>exact (by (with_reducible repeat (first|apply ra'|apply rn'|apply rw'));exact HO161.out))
    (case aS=>exact (below_size (by repeat (first|(with_reducible first|exact HB.out|apply ba'|apply bd'|apply be'|refine bs' ?_ GE157.out|refine bs' ?_ GE158.out|refine bs' ?_ GE165.out)|exact HB.out))))
    (case aL=>have:=LMc3.out;omega)
    intro v163 w10 ho hb hg hat;rw[← Ny162.out] at ho;have n0_:=am' (blk_grown (g:=gb157) (o := .cells #[.slice A0_0 l0_0.length c0_0, .bool a0_1] 34 (0,0)) (by (with_reducible repeat (first|refine kn' ?_ _|refine kd' ?_|refine ka' ?_ _));exact BK157.out) hg (Kd.R_ne HO161.out BK157.out (by decide)));have n1_:=am' (blk_grown (g:=gb158) (o := .cells #[.slice none 0 0, .bool false] 34 (0,0)) (by (with_reducible repeat (first|refine kn' ?_ _|refine kd' ?_|refine ka' ?_ _));exact BK158.out) hg (Kd.R_ne HO161.out BK158.out (by decide)));have n2_:=am' (blk_grown (g:=gb165) (o := .cells #[.slice none 0 0, .bool false] 34 (0,0)) (by (with_reducible repeat (first|refine kn' ?_ _|refine kd' ?_|refine ka' ?_ _));exact BK165.out) hg (Kd.R_ne HO161.out BK165.out (by decide)));have n3_:=am' (hb);have n4_:=am' (ho);clear BK157;clear BK158;clear BK165;clear HB;clear HO161;have BK157:=n0_;have BK158:=n1_;have BK165:=n2_;have HB:=n3_;have HO164:=n4_;clear n0_ n1_ n2_ n3_ n4_;clear ho hb hg hat;obtain ⟨Ao11,co11,eo11⟩:=Kd.R_slice HO164.out
    (first|subst eo11|(injection eo11 with f1_ f2_ f3_;have f4_:=f1_.symm;have f5_:=f3_.symm;clear f1_ f2_ f3_;subst f4_;subst f5_))
    refine hK.out _ _ ⟨(blk_cell BK157.out 0).trans rfl,(blk_cell BK157.out 1).trans rfl⟩ (fun hHeld=>?_);clear hK K;refine norm_ (a':=?_) ?_ ?_
    rotate_left
    ·
     show Act.put _ (some 11) _=_
     simp only[Act.put,sa',sb',sc',i64_w,i32_w];rfl
    refine pure_ (i:=7) (N:=some 15) (v:=?_) (a':=?_) #[true,true,true,true,true,true,true,true,true,false] rfl rfl (any_of HT_.out (by kernel_rfl)) (fun _ _ _ h=>h) (Or.inl ⟨by rfl,?_⟩) ?_ ?_
    rotate_left
    ·
     intro w';go_simp;with_reducible rfl
    rotate_left
    ·
     simp only[Act.put,sa',sb',sc',i64_w,i32_w];rfl
    exact norm_ (by simp only[putAll,Act.put,sa',sb',sc']) (hCont (v160, .slice Ao11 y162.length co11,gb165) _ ⟨hHeld,(by (with_reducible repeat (first|apply ra'|apply rn'|apply rw'));exact HO164.out),(by (with_reducible repeat (first|refine kn' ?_ _|refine kd' ?_|refine ka' ?_ _));exact BK157.out),(by (with_reducible repeat (first|refine kn' ?_ _|refine kd' ?_|refine ka' ?_ _));exact BK158.out),(by (with_reducible repeat (first|refine kn' ?_ _|refine kd' ?_|refine ka' ?_ _));exact BK165.out),GW165.out,GE165.out,NB157_165.out,NB165_157.out,NB158_165.out,NB165_158.out,(by repeat (first|(with_reducible first|exact HB.out|apply ba'|apply bd'|apply be'|refine bs' ?_ GE157.out|refine bs' ?_ GE158.out|refine bs' ?_ GE165.out)|exact HB.out))⟩)
  rintro ⟨v160,v163,gb165⟩ w12 ⟨hS_,h0_,h1_,h2_,h3_,h4_,h5_,h6_,h7_,h8_,h9_,h10_⟩
  have n0_:Aside0 (Kd.R Kd.bool 4 w12 w.heap.size (fun _=>True) v163 y162):=⟨h0_⟩
  have n1_:Aside0 (w12.heap[gb157]? = some (.cells #[.slice A0_0 l0_0.length c0_0, .bool a0_1] 34 (0,0))):=⟨h1_⟩
  have n2_:Aside0 (w12.heap[gb158]? = some (.cells #[.slice none 0 0, .bool false] 34 (0,0))):=⟨h2_⟩
  have n3_:Aside0 (w12.heap[gb165]? = some (.cells #[.slice none 0 0, .bool false] 34 (0,0))):=⟨h3_⟩
  have n4_:Aside0 (w.heap.size≤gb165):=⟨h4_⟩
  have n5_:Aside0 (w.heap.size≤gb165):=⟨h5_⟩
  have n6_:Aside0 (gb157≠gb165):=⟨h6_⟩
  have n7_:Aside0 (gb165≠gb157):=⟨h7_⟩
  have n8_:Aside0 (gb158≠gb165):=⟨h8_⟩
  have n9_:Aside0 (gb165≠gb158):=⟨h9_⟩
  have n10_:Aside0 (Below w.heap.size w w12):=⟨h10_⟩
  clear BK157;clear BK158;clear HB;clear h0_ h1_ h2_ h3_ h4_ h5_ h6_ h7_ h8_ h9_ h10_;have HO164:=n0_;have BK157:=n1_;have BK158:=n2_;have BK165:=n3_;have GW165:=n4_;have GE165:=n5_;have NB157_165:=n6_;have NB165_157:=n7_;have NB158_165:=n8_;have NB165_158:=n9_;have HB:=n10_;clear n0_ n1_ n2_ n3_ n4_ n5_ n6_ n7_ n8_ n9_ n10_;have hHeld:w12.cell? ⟨gb157,0,none⟩=some (.slice A0_0 l0_0.length c0_0)∧w12.cell? ⟨gb157,1,none⟩=some (.bool a0_1):=hS_;obtain ⟨Ao13,co13,eo13⟩:=Kd.R_slice HO164.out
  (first|subst eo13|(injection eo13 with f1_ f2_ f3_;have f4_:=f1_.symm;have f5_:=f3_.symm;clear f1_ f2_ f3_;subst f4_;subst f5_))
  refine norm_ (a':=?_) ?_ ?_
  rotate_left
  ·
   simp only[putAll,Act.put,sa',sb',sc'];rfl
  refine one_ (i:=9) (N:=none) #[true,true,true,true,true,true,true,true,true,true] rfl rfl (one_of HT_.out (by kernel_rfl)) (by decide) (fun K hK=>?_);have hs14:w12.cell? ⟨gb165,0,none⟩=some (.slice none 0 0):=(blk_cell BK165.out 0).trans rfl;have hfs14:=blk_frozen BK165.out 0;have hns14_0:=NB157_165.out;have hns14_1:=NB158_165.out;have hms14_0:=NB165_157.out;have hms14_1:=NB165_158.out;have hs15:w12.cell? ⟨gb165,1,none⟩=some (.bool false):=(blk_cell BK165.out 1).trans rfl;have hfs15:=blk_frozen BK165.out 1;have hns15_0:=NB157_165.out;have hns15_1:=NB158_165.out;have hms15_0:=NB165_157.out;have hms15_1:=NB165_158.out;refine skip_ (w1:=?_) (by rfl) rfl ?_ ?_
  rotate_left
  ·
   go_simp;rfl
  refine hK.out _ _ ⟨((cell_far (p:=⟨gb165,_,none⟩) NB157_165.out _).trans (((cell_far (p:=⟨gb165,_,none⟩) NB157_165.out _).trans (hHeld.1)))),((cell_far (p:=⟨gb165,_,none⟩) NB157_165.out _).trans (((cell_far (p:=⟨gb165,_,none⟩) NB157_165.out _).trans (hHeld.2))))⟩ (fun hHeld=>?_);clear hK K;refine done_ (done_of HT_.out (by kernel_rfl)) ?_
  try go_wp2
  go_loopg [18] k (fun kq v18 w'=>∃ (x18_1:Int) (x166000_1:List Bool) (u166000:Value),v18 = .int .i64 x18_1∧Aside0 (spec_keRide.l0 kq l1 (l1.length:Int) x18_1 l0_0 a0_1 x166000_1 (!a0_1)=some (r1,r2))∧Aside0 (kq≤k)∧Aside0 (Kd.R Kd.bool 4 w' w.heap.size (fun _=>True) u166000 x166000_1)∧Aside0 (w'.heap[gb157]? = some (.cells #[(.slice A0_0 l0_0.length c0_0), .bool a0_1] 34 (0,0)))∧Aside0 (w'.heap[gb158]? = some (.cells #[(.slice none 0 0), .bool false] 34 (0,0)))∧Aside0 (w'.heap[gb165]? = some (.cells #[u166000, .bool (!a0_1)] 34 (0,0)))∧Aside0 (Below w.heap.size w w'))
  case atStart=>exact ⟨(0),(y162),(.slice Ao13 y162.length co13),(by first|rfl|(simp;done)|(simp[*];done)),H',⟨Nat.le_refl _⟩,⟨by (with_reducible repeat (first|apply ra'|apply rn'|apply rw'));exact Kd.R_mono (Kd.R_far (p:=⟨gb165,1,none⟩) (Kd.R_far (p:=⟨gb165,0,none⟩) (Kd.R_types HO164.out BK165.out (by decide)) (fun _ hk=>hk.2) (.slice Ao13 y162.length co13)) (fun _ hk=>hk.2) (.bool (!a0_1))) (fun _ hk=>trivial)⟩,⟨by (with_reducible repeat (first|refine kn' ?_ _|refine kd' ?_|refine ka' ?_ _));refine blk_far ?_ NB157_165.out _;(with_reducible repeat (first|refine kn' ?_ _|refine kd' ?_|refine ka' ?_ _));refine blk_far ?_ NB157_165.out _;(with_reducible repeat (first|refine kn' ?_ _|refine kd' ?_|refine ka' ?_ _));exact BK157.out⟩,⟨by (with_reducible repeat (first|refine kn' ?_ _|refine kd' ?_|refine ka' ?_ _));refine blk_far ?_ NB158_165.out _;(with_reducible repeat (first|refine kn' ?_ _|refine kd' ?_|refine ka' ?_ _));refine blk_far ?_ NB158_165.out _;(with_reducible repeat (first|refine kn' ?_ _|refine kd' ?_|refine ka' ?_ _));exact BK158.out⟩,⟨by (with_reducible repeat (first|refine kn' ?_ _|refine kd' ?_|refine ka' ?_ _));refine blk_put (cs:=#[.slice Ao13 y162.length co13, .bool false]) ?_ 1 _ rfl;(with_reducible repeat (first|refine kn' ?_ _|refine kd' ?_|refine ka' ?_ _));refine blk_put (cs:=#[.slice none 0 0, .bool false]) ?_ 0 _ rfl;(with_reducible repeat (first|refine kn' ?_ _|refine kd' ?_|refine ka' ?_ _));exact BK165.out⟩,⟨by repeat (first|(with_reducible first|exact HB.out|apply ba'|apply bd'|apply be'|refine bs' ?_ GE157.out|refine bs' ?_ GE158.out|refine bs' ?_ GE165.out)|exact HB.out)⟩⟩
  case round =>
   clear H';try clear c1
   try clear p2
   try clear c3
   try clear c7
   obtain ⟨x18_1,x166000_1,u166000,rfl,HA,HK1,HO_166000,BK157,BK158,BK165,HB⟩:=hrel;cases gk with
   | zero=>exact absurd HA.out (by simp[spec_keRide.l0])
   | succ k1 =>
    have H:=HA.out;clear HA;simp only[spec_keRide.l0] at H;by_cases c16:x18_1 < (l1.length:Int)
    ·
     rw[if_pos c16] at H;have c16b0:decide (x18_1 < (l1.length:Int))=true:=decide_eq_true c16;clear c16;by_cases c17:0≤x18_1
     ·
      rw[if_pos c17] at H;have c17b0:decide (0≤x18_1)=true:=decide_eq_true c17;clear c17;by_cases c18:x18_1 < (l1.length:Int)
      ·
       rw[if_pos c18] at H;have c18b0:decide (x18_1 < (l1.length:Int))=true:=decide_eq_true c18;clear c18;by_cases c19:0≤(rd l1 x18_1)
       ·
        rw[if_pos c19] at H;have c19b0:decide (0≤(rd l1 x18_1))=true:=decide_eq_true c19;clear c19;by_cases c20:(rd l1 x18_1) < (l0_0.length:Int)
        ·
         rw[if_pos c20] at H;have c20b0:decide ((rd l1 x18_1) < (l0_0.length:Int))=true:=decide_eq_true c20;clear c20;by_cases c21:(rd l1 x18_1) < (x166000_1.length:Int)
         ·
          rw[if_pos c21] at H;have c21b0:decide ((rd l1 x18_1) < (x166000_1.length:Int))=true:=decide_eq_true c21;clear c21;obtain ⟨y168,hy168⟩:∃ y_:List Bool,y_=(x166000_1.set ((rd l1 x18_1):Int).toNat (!(rdOf false l0_0 (rd l1 x18_1)))):=⟨_,rfl⟩
          replace H:(spec_keRide.l0 k1 l1 (l1.length:Int) (wrap64 (x18_1+1)) l0_0 a0_1 y168 (!a0_1))=some (r1,r2):=by first|(rw[hy168];with_reducible exact H)|(have H2_:=(Option.bind_some _ _).symm.trans H;rw[hy168];with_reducible exact H2_)|(have H2_:=(Option.bind_some _ _).symm.trans H;with_reducible exact H2_)|with_reducible exact H|(rw[hy168];exact H)|exact H
          have Ny168:=am' hy168;clear hy168;have H':=am' H;clear H;have p166:0≤(x18_1:Int):=of_decide_eq_true (by first|(with_reducible assumption)|assumption);have q166:x18_1 < (l1.length:Int):=of_decide_eq_true (by first|(with_reducible assumption)|assumption);obtain ⟨ad166,e166,hx166_0⟩:=Kd.at_int HR1.out x18_1 p166 q166;cases e166;replace hx166_0:=(HB.out.cell (bl' w _ hx166_0)).trans hx166_0;replace p166:=eq_true p166;replace q166:=eq_true q166
          try go_wp2
          have n0_:=am' (rw' HO_166000.out);have n1_:=am' (kd' BK157.out);have n2_:=am' (kd' BK158.out);have n3_:=am' (kd' BK165.out);have n4_:=am' (be' HB.out);clear HO_166000;clear BK157;clear BK158;clear BK165;clear HB;have HO_166000:=n0_;have BK157:=n1_;have BK158:=n2_;have BK165:=n3_;have HB:=n4_;clear n0_ n1_ n2_ n3_ n4_;have p167:0≤((rd l1 x18_1):Int):=of_decide_eq_true (by first|(with_reducible assumption)|assumption);have q167:(rd l1 x18_1) < (l0_0.length:Int):=of_decide_eq_true (by first|(with_reducible assumption)|assumption);obtain ⟨ad167,e167,hx167_0⟩:=Kd.at_bool HR0_0.out (rd l1 x18_1) p167 q167;have hw167_0:=hx167_0;cases e167;replace hx167_0:=(HB.out.cell (bl' w _ hx167_0)).trans hx167_0;replace p167:=eq_true p167;replace q167:=eq_true q167;have p22:0≤((rd l1 x18_1):Int):=of_decide_eq_true (by first|(with_reducible assumption)|assumption);have q22:((rd l1 x18_1):Int) < ((x166000_1.length:Int):Int):=of_decide_eq_true (by first|(with_reducible assumption)|assumption);obtain ⟨go22,co22,eo22,gb22,gl22,cl22,HG22⟩:=Kd.R_form HO_166000.out (by omega)
          (first|cases eo22|(injection eo22 with ea_ en_ ec_;(first|subst ea_|(injection ea_ with ea_;subst ea_));subst ec_;clear en_))
          have GB22:=am' gb22;have GG22:=am' HG22;clear gb22 gl22 HG22;obtain ⟨hx22_0,hf22_0⟩:=Kd.R_celln false HO_166000.out ((rd l1 x18_1):Int) p22 q22;replace p22:=eq_true p22;replace q22:=eq_true q22;have HP24:=Kd.R_putn HO_166000.out ((rd l1 x18_1):Int) (!(rdOf false l0_0 (rd l1 x18_1)));rw[← Ny168.out] at HP24;have HQ24:=am' HP24;clear HP24;refine start_ (n:=11) (S:=fun w'=>w'.cell? ⟨gb165,0,none⟩=some (.slice (some ⟨go22,0,none⟩) x166000_1.length co22)∧w'.cell? ⟨gb165,1,none⟩=some (.bool (!a0_1))∧w'.cell? ⟨gb157,0,none⟩=some (.slice (some ad167) l0_0.length c0_0)∧w'.cell? ⟨gb157,1,none⟩=some (.bool a0_1)∧w'.cell? (ad167.add ((rd l1 x18_1)).toNat)=some (.bool (rdOf false l0_0 (rd l1 x18_1)))) (ds:=[10]) #[false,false,false,false,false,false,false,false,false,false,false] (by kernel_rfl) rfl rfl ⟨(blk_cell BK165.out 0).trans rfl,(blk_cell BK165.out 1).trans rfl,(blk_cell BK157.out 0).trans rfl,(blk_cell BK157.out 1).trans rfl,((HB.out.cell (bl' w _ hw167_0)).trans hw167_0)⟩ (fun hHeld=>?_);refine with_tabW spec_keRide.tab5 spec_keRide.bits5 (fun HT_ HW_=>?_);generalize wr.drew=w23 at HO_166000 BK157 BK158 BK165 HB GG22 HQ24 hf22_0 hx167_0 hx22_0 hHeld ⊢
          refine pure_ (i:=0) (N:=some 22) (v:=?_) (a':=?_) #[true,false,false,false,false,false,false,false,false,false,false] rfl rfl (any_of HT_.out (by kernel_rfl)) (fun _ _ _ h=>h) (Or.inl ⟨by rfl,?_⟩) ?_ ?_
          rotate_left
          ·
           intro w';go_simp;with_reducible rfl
          rotate_left
          ·
           simp only[Act.put,sa',sb',sc',i64_w,i32_w];rfl
          refine pure_ (i:=2) (N:=some 24) (v:=?_) (a':=?_) #[true,false,true,false,false,false,false,false,false,false,false] rfl rfl (any_of HT_.out (by kernel_rfl)) (fun _ _ _ h=>h) (Or.inl ⟨by rfl,?_⟩) ?_ ?_
          rotate_left
          ·
           intro w';go_simp;with_reducible rfl
          rotate_left
          ·
           simp only[Act.put,sa',sb',sc',i64_w,i32_w];rfl
          refine pure_ (i:=3) (N:=some 25) (v:=?_) (a':=?_) #[true,false,true,true,false,false,false,false,false,false,false] rfl rfl (any_of HT_.out (by kernel_rfl)) (fun _ _ _ h=>h) (Or.inl ⟨by rfl,?_⟩) ?_ ?_
          rotate_left
          ·
           intro w';go_simp;with_reducible rfl
          rotate_left
          ·
           simp only[Act.put,sa',sb',sc',i64_w,i32_w];rfl
          refine pure_ (i:=5) (N:=some 27) (v:=?_) (a':=?_) #[true,false,true,true,false,true,false,false,false,false,false] rfl rfl (any_of HT_.out (by kernel_rfl)) (fun _ _ _ h=>h) (Or.inl ⟨by rfl,?_⟩) ?_ ?_
          rotate_left
          ·
           intro w';go_simp;with_reducible rfl
          rotate_left
          ·
           simp only[Act.put,sa',sb',sc',i64_w,i32_w];rfl
          refine take_ (i:=1) (N:=some 23) (v:=?_) (a':=?_) #[true,true,true,true,false,true,false,false,false,false,false] rfl rfl (take_ofW HT_.out HW_.out (by kernel_rfl)) (fun _ _ _ h=>h) (Or.inl ⟨by rfl,?_⟩) hHeld ?_ ?_
          rotate_left
          ·
           rintro w' ⟨s0,s1,s2,s3,s4⟩
           go_simp;with_reducible rfl
          rotate_left
          ·
           simp only[Act.put,sa',sb',sc',i64_w,i32_w];rfl
          refine take_ (i:=4) (N:=some 26) (v:=?_) (a':=?_) #[true,true,true,true,true,true,false,false,false,false,false] rfl rfl (take_ofW HT_.out HW_.out (by kernel_rfl)) (fun _ _ _ h=>h) (Or.inl ⟨by rfl,?_⟩) hHeld ?_ ?_
          rotate_left
          ·
           rintro w' ⟨s0,s1,s2,s3,s4⟩
           go_simp;with_reducible rfl
          rotate_left
          ·
           simp only[Act.put,sa',sb',sc',i64_w,i32_w];rfl
          refine pure_ (i:=6) (N:=some 28) (v:=?_) (a':=?_) #[true,true,true,true,true,true,true,false,false,false,false] rfl rfl (any_of HT_.out (by kernel_rfl)) (fun _ _ _ h=>h) (Or.inl ⟨by rfl,?_⟩) ?_ ?_
          rotate_left
          ·
           intro w';go_simp;with_reducible rfl
          rotate_left
          ·
           simp only[Act.put,sa',sb',sc',i64_w,i32_w];rfl
          refine take_ (i:=7) (N:=some 29) (v:=?_) (a':=?_) #[true,true,true,true,true,true,true,true,false,false,false] rfl rfl (take_ofW HT_.out HW_.out (by kernel_rfl)) (fun _ _ _ h=>h) (Or.inl ⟨by rfl,?_⟩) hHeld ?_ ?_
          rotate_left
          ·
           rintro w' ⟨s0,s1,s2,s3,s4⟩
           go_simp;with_reducible rfl
          rotate_left
          ·
           simp only[Act.put,sa',sb',sc',i64_w,i32_w];rfl
          refine pure_ (i:=8) (N:=some 30) (v:=?_) (a':=?_) #[true,true,true,true,true,true,true,true,true,false,false] rfl rfl (any_of HT_.out (by kernel_rfl)) (fun _ _ _ h=>h) (Or.inl ⟨by rfl,?_⟩) ?_ ?_
          rotate_left
          ·
           intro w';go_simp;with_reducible rfl
          rotate_left
          ·
           simp only[Act.put,sa',sb',sc',i64_w,i32_w];rfl
          refine pure_ (i:=9) (N:=some 31) (v:=?_) (a':=?_) #[true,true,true,true,true,true,true,true,true,true,false] rfl rfl (any_of HT_.out (by kernel_rfl)) (fun _ _ _ h=>h) (Or.inl ⟨by rfl,?_⟩) ?_ ?_
          rotate_left
          ·
           intro w';go_simp;with_reducible rfl
          rotate_left
          ·
           simp only[Act.put,sa',sb',sc',i64_w,i32_w];rfl
          refine last_ (i:=10) (N:=none) #[true,true,true,true,true,true,true,true,true,true,true] rfl rfl (one_of HT_.out (by kernel_rfl)) (by decide) (fun K hK=>?_);refine skip_ (w1:=?_) (by rfl) rfl ?_ ?_
          rotate_left
          ·
           go_simp;rfl
          refine hK.out _ _ ?_
          clear hK K;refine done_ (done_of HT_.out (by kernel_rfl)) ?_
          try go_wp2
          go_roundg k1
          case measure=>have:=HK1.out;omega
          case rel=>exact ⟨(wrap64 (x18_1+1)),(y168),(.slice (some ⟨go22,0,none⟩) x166000_1.length co22),(by first|rfl|(simp;done)|(simp[*];done)),H',⟨by have:=HK1.out;omega⟩,⟨by (with_reducible repeat (first|apply ra'|apply rn'|apply rw'));exact HQ24.out⟩,⟨by (with_reducible repeat (first|refine kn' ?_ _|refine kd' ?_|refine ka' ?_ _));refine blk_far ?_ (by have h_:=Kd.R_ne HO_166000.out BK157.out (by decide);intro e_;exact h_ (by rw[e_];rfl)) _;(with_reducible repeat (first|refine kn' ?_ _|refine kd' ?_|refine ka' ?_ _));exact BK157.out⟩,⟨by (with_reducible repeat (first|refine kn' ?_ _|refine kd' ?_|refine ka' ?_ _));refine blk_far ?_ (by have h_:=Kd.R_ne HO_166000.out BK158.out (by decide);intro e_;exact h_ (by rw[e_];rfl)) _;(with_reducible repeat (first|refine kn' ?_ _|refine kd' ?_|refine ka' ?_ _));exact BK158.out⟩,⟨by (with_reducible repeat (first|refine kn' ?_ _|refine kd' ?_|refine ka' ?_ _));refine blk_far ?_ (by have h_:=Kd.R_ne HO_166000.out BK165.out (by decide);intro e_;exact h_ (by rw[e_];rfl)) _;(with_reducible repeat (first|refine kn' ?_ _|refine kd' ?_|refine ka' ?_ _));exact BK165.out⟩,⟨by repeat (first|(with_reducible first|exact HB.out|apply ba'|apply bd'|apply be'|refine bs' ?_ GB22.out|refine bs' ?_ GE157.out|refine bs' ?_ GE158.out|refine bs' ?_ GE165.out)|exact HB.out)⟩⟩
         ·
          rw[if_neg c21] at H;exact absurd H (by simp)
        ·
         rw[if_neg c20] at H;exact absurd H (by simp)
       ·
        rw[if_neg c19] at H;exact absurd H (by simp)
      ·
       rw[if_neg c18] at H;exact absurd H (by simp)
     ·
      rw[if_neg c17] at H;exact absurd H (by simp)
    ·
     rw[if_neg c16] at H;have c16b0:decide (x18_1 < (l1.length:Int))=false:=decide_eq_false c16;clear c16;simp only[Option.some.injEq,Prod.mk.injEq] at H;obtain ⟨rfl,rfl⟩:=H;have hnb25:=NB165_157.out;have hnc25:=NB157_165.out;have hnb26:=NB165_158.out;have hnc26:=NB158_165.out;have hcz27_0:wr.cell? ⟨gb165,0,none⟩=some (u166000):=(blk_cell BK165.out 0).trans rfl;have hcz27_1:wr.cell? ⟨gb165,1,none⟩=some (.bool (!a0_1)):=(blk_cell BK165.out 1).trans rfl;have hfz27_0:=blk_frozen BK165.out 0;have hfz27_1:=blk_frozen BK165.out 1;obtain ⟨Ao28,co28,eo28⟩:=Kd.R_slice HO_166000.out;subst eo28;have hnb29:=NB158_157.out;have hnc29:=NB157_158.out;have hcz30_0:wr.cell? ⟨gb158,0,none⟩=some (.slice none 0 0):=(blk_cell BK158.out 0).trans rfl;have hcz30_1:wr.cell? ⟨gb158,1,none⟩=some (.bool false):=(blk_cell BK158.out 1).trans rfl;have hfz30_0:=blk_frozen BK158.out 0;have hfz30_1:=blk_frozen BK158.out 1;go_wp2;refine bodyPost_ret (results_cell_row rfl _ _ gb158 34 #[.slice Ao28 x166000_1.length co28, .bool (!a0_1)] (0,0) _ rfl (by (with_reducible repeat (first|refine kn' ?_ _|refine kd' ?_|refine ka' ?_ _));refine blk_put (cs:=#[.slice Ao28 x166000_1.length co28, .bool false]) ?_ 1 _ rfl;(with_reducible repeat (first|refine kn' ?_ _|refine kd' ?_|refine ka' ?_ _));refine blk_put (cs:=#[.slice none 0 0, .bool false]) ?_ 0 _ rfl;(with_reducible repeat (first|refine kn' ?_ _|refine kd' ?_|refine ka' ?_ _));exact BK158.out) Try.underlying34 rfl (by kernel_rfl)) rfl ?_
     exact ⟨_,by first|rfl|(simp[errW_none,errW_some] <;> rfl)|(simp[*,errW_none,errW_some] <;> rfl),by (with_reducible repeat (first|apply ra'|apply rn'|apply rw'));exact Kd.R_mono (Kd.R_far (p:=⟨gb158,1,none⟩) (Kd.R_far (p:=⟨gb158,0,none⟩) (Kd.R_types HO_166000.out BK158.out (by decide)) (fun _ hk=>hk.2) (.slice Ao28 x166000_1.length co28)) (fun _ hk=>hk.2) (.bool (!a0_1))) (fun _ hk=>trivial),by repeat (first|(with_reducible first|exact HB.out|apply ba'|apply bd'|apply be'|refine bs' ?_ GE157.out|refine bs' ?_ GE158.out|refine bs' ?_ GE165.out)|exact HB.out)⟩
 ·
  rw[if_neg c3] at H;exact absurd H (by simp)
end Go.Proofs.Ytmfofjloklafoaa.C7
