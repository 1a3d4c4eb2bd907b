import Derived.Test.YtdomojenlofieaaC2zx0
import Derived.Test.YtdomojenlofieaaC2zAl
namespace Go.Proofs.Ytdomojenlofieaa.C2
open Go.RowKit Go.Proofs.YtdomojenlofieaaW.PrintWords Go.Proofs.YtdomojenlofieaaW.PrintLast Go.Proofs.YtdomojenlofieaaW.PrintMore Go.Proofs.Ytdomojenlofieaa.H
attribute [local go_sem] max2_int min2_int max_two min_two max_three min_three max_four min_four
set_option linter.unusedVariables false
set_option linter.unusedSimpArgs false
mutual
def spec_toAfter.l0:Nat→List (List Int)→Int→Int→List Bool→Int→List Bool→Int→Option (List Bool × Int)
 | 0,_,_,_,_,_,_,_=>none
 | k+1,x17,x18,x19,x148000,x148001,x156000,x156001=>if x19 < x18 then (if 0≤x19 then (if x19 < (x17.length:Int) then (if 0 < ((rd_L2 x17 x19).length:Int) then (if 0≤(rd (rd_L2 x17 x19) 0) then (if (rd (rd_L2 x17 x19) 0) < (x148000.length:Int) then (if rdOf false x148000 (rd (rd_L2 x17 x19) 0)=true then (spec_toAfter.j1 k (rd_L2 x17 x19) x17 x18 x19 x148000 x148001 x156000 (wrap64 (x156001 - 1))) else (spec_toAfter.j1 k (rd_L2 x17 x19) x17 x18 x19 x148000 x148001 x156000 (wrap64 (x156001+1)))) else (none)) else (none)) else (none)) else (none)) else (none)) else (some (x156000,x156001))
def spec_toAfter.j1:Nat→List Int→List (List Int)→Int→Int→List Bool→Int→List Bool→Int→Option (List Bool × Int)
 | 0,_,_,_,_,_,_,_,_=>none
 | k+1,x7,x17,x18,x19,x148000,x148001,x156000,x156001=>spec_toAfter.l1 k x17 x18 x19 x7 (x7.length:Int) 0 x148000 x148001 x156000 x156001
def spec_toAfter.l1:Nat→List (List Int)→Int→Int→List Int→Int→Int→List Bool→Int→List Bool→Int→Option (List Bool × Int)
 | 0,_,_,_,_,_,_,_,_,_,_=>none
 | k+1,x17,x18,x19,x38,x39,x40,x148000,x148001,x156000,x156001=>if x40 < x39 then (if 0≤x40 then (if x40 < (x38.length:Int) then (if 0≤(rd x38 x40) then (if (rd x38 x40) < (x148000.length:Int) then (if (rd x38 x40) < (x156000.length:Int) then (spec_toAfter.l1 k x17 x18 x19 x38 x39 (wrap64 (x40+1)) x148000 x148001 (x156000.set ((rd x38 x40):Int).toNat (!(rdOf false x148000 (rd x38 x40)))) x156001) else (none)) else (none)) else (none)) else (none)) else (none)) else (spec_toAfter.l0 k x17 x18 (wrap64 (x19+1)) x148000 x148001 x156000 x156001)
end
def spec_toAfter.f (k:Nat) (l0_0:List Bool) (a0_1:Int) (l1:List (List Int)):Option (List Bool × Int):=(some (([]:List Bool):List Bool)).bind fun y149=>(if y149.length+l0_0.length < 140737488355328 then (spec_toAfter.l0 k l1 (l1.length:Int) 0 l0_0 a0_1 (y149 ++ l0_0) a0_1) else (none))
def spec_toAfter.T1:Bool × List (List Nat × List Nat):=(true,[([],[]),([],[]),([1],[1]),([0,2],[0,2]),([],[]),([4],[4]),([3,5],[3,5]),([],[]),([7,6,3,0,1,2,3,4,5,6,7],[6,7])])
def spec_toAfter.B1:List Nat:=[0,0,2,7,0,16,63,0,255]
theorem spec_toAfter.tab1:rtab .any (opsOf Try.f55 1)=spec_toAfter.T1:=by kernel_rfl
theorem spec_toAfter.bits1:waitsOk spec_toAfter.T1.2 spec_toAfter.B1=true:=by kernel_rfl
def spec_toAfter.T11:Bool × List (List Nat × List Nat):=(true,[([],[]),([0],[0]),([],[]),([],[]),([3],[3]),([],[]),([4,5],[4,5]),([6],[6]),([7],[7]),([1,2,0,1,2,3,4,5,6,7,8],[1,2]),([9,8,0,1,2,3,4,5,6,7,8],[8,9])])
def spec_toAfter.B11:List Nat:=[0,1,0,0,8,0,56,120,248,511,1023]
theorem spec_toAfter.tab11:rtab .any (opsOf Try.f55 11)=spec_toAfter.T11:=by kernel_rfl
theorem spec_toAfter.bits11:waitsOk spec_toAfter.T11.2 spec_toAfter.B11=true:=by kernel_rfl
set_option maxHeartbeats 8000000 in
set_option maxRecDepth 100000 in
theorem spec_toAfter.calls (k:Nat) (A0_0:Option Addr) (c0_0:Nat) (l0_0:List Bool) (a0_1:Int) (A1:Option Addr) (c1:Nat) (l1:List (List Int)) (r1:List Bool) (r2:Int) (w:World) (hr0_0:Kd.C Kd.bool w A0_0 l0_0.length l0_0) (hc0_0:l0_0.length≤c0_0) (hr1:Kd.C (Kd.slice 3 (Kd.int .i64)) w A1 l1.length l1) (hc1:l1.length≤c1) (h:spec_toAfter.f k l0_0 a0_1 l1=some (r1,r2)) :
  Calls Try.prog 55 #[.agg #[.slice A0_0 l0_0.length c0_0, .int .i64 a0_1], .slice A1 l1.length c1] w fun e w'=>∃ v0_:Value,e = .returned (.agg #[v0_, .int .i64 r2])∧Kd.R Kd.bool 4 w' w.heap.size (fun _=>True) v0_ r1∧Below w.heap.size w w':=by
 have hu32:=Try.underlying32
 have HR0_0:=am' hr0_0
 have HC0_0:=am' hc0_0
 clear hr0_0 hc0_0;have HR1:=am' hr1
 have HC1:=am' hc1
 clear hr1 hc1;have HB:=am' (Below.refl w.heap.size w)
 have H:((some (([]:List Bool):List Bool)).bind fun y149=>(if y149.length+l0_0.length < 140737488355328 then (spec_toAfter.l0 k l1 (l1.length:Int) 0 l0_0 a0_1 (y149 ++ l0_0) a0_1) else (none)))=some (r1,r2):=h
 clear h;obtain ⟨y149,hy149⟩:∃ y_:List Bool,y_=(([]:List Bool)):=⟨_,rfl⟩
 replace H:(if y149.length+l0_0.length < 140737488355328 then (spec_toAfter.l0 k l1 (l1.length:Int) 0 l0_0 a0_1 (y149 ++ l0_0) a0_1) else (none))=some (r1,r2):=by first|(rw[hy149];with_reducible exact H)|(have H2_:=(Option.bind_some _ _).symm.trans H;rw[hy149];with_reducible exact H2_)|(have H2_:=(Option.bind_some _ _).symm.trans H;with_reducible exact H2_)|with_reducible exact H|(rw[hy149];exact H)|exact H
 have Ny149:=am' hy149
 clear hy149;by_cases c3:y149.length+l0_0.length < 140737488355328
 ·
  rw[if_pos c3] at H;have LMc3:=am' c3;clear c3;obtain ⟨y152,hy152⟩:∃ y_:List Bool,y_=(y149 ++ l0_0):=⟨_,rfl⟩
  replace H:(spec_toAfter.l0 k l1 (l1.length:Int) 0 l0_0 a0_1 y152 a0_1)=some (r1,r2):=by first|(rw[hy152];with_reducible exact H)|(have H2_:=(Option.bind_some _ _).symm.trans H;rw[hy152];with_reducible exact H2_)|(have H2_:=(Option.bind_some _ _).symm.trans H;with_reducible exact H2_)|with_reducible exact H|(rw[hy152];exact H)|exact H
  have Ny152:=am' hy152;clear hy152;have H':=am' H;clear H;go_enter Try.func55,Try.ntmps55
  try go_wp2_with (first|((with_reducible refine gate_dst (N:=2) rfl ?_);refine box_event ?hg (N:=2) ?hd (cs:=#[.slice A0_0 l0_0.length c0_0, .int .i64 a0_1]) (t:=32) ?hr ?_;(case hd=>rfl);(case hg=>rfl);(case hr=>first|(go_simp;done)|(go_simp;rfl));intro gb147 hg w4 hbox hb;have n0_:=am' (bt' xb' hb);have n1_:=am' (hbox);have n2_:=am' ((by rw[hg];exact (bz' xb'):w.heap.size≤gb147));have n3_:=am' ((by rw[hg];exact (bz' xb'):w.heap.size≤gb147));clear HB;have HB:=n0_;have BK147:=n1_;have GW147:=n2_;have GE147:=n3_;clear n0_ n1_ n2_ n3_;clear hb hbox hg)|((with_reducible refine gate_dst (N:=4) rfl ?_);refine box_event ?hg (N:=4) ?hd (cs:=#[.slice none 0 0, .int .i64 0]) (t:=32) ?hr ?_;(case hd=>rfl);(case hg=>rfl);(case hr=>first|(go_simp;done)|(go_simp;rfl));intro gb148 hg w5 hbox hb;have n0_:=am' (bb' (g:=gb147) (o := .cells #[.slice A0_0 l0_0.length c0_0, .int .i64 a0_1] 32 (0,0)) (kk' BK147.out) hb);have n1_:=am' (bt' (yb' GE147.out) hb);have n2_:=am' (hbox);have n3_:=am' ((by rw[hg];exact (bz' (yb' GE147.out)):w.heap.size≤gb148));have n4_:=am' ((by rw[hg];exact (bz' (yb' GE147.out)):w.heap.size≤gb148));have n5_:=am' ((by rw[hg];exact Nat.ne_of_lt (blk_lt (g:=gb147) (o := .cells #[.slice A0_0 l0_0.length c0_0, .int .i64 a0_1] 32 (0,0)) (kk' BK147.out)):gb147≠gb148));have n6_:=am' ((by rw[hg];exact Nat.ne_of_gt (blk_lt (g:=gb147) (o := .cells #[.slice A0_0 l0_0.length c0_0, .int .i64 a0_1] 32 (0,0)) (kk' BK147.out)):gb148≠gb147));clear BK147;clear HB;have BK147:=n0_;have HB:=n1_;have BK148:=n2_;have GW148:=n3_;have GE148:=n4_;have NB147_148:=n5_;have NB148_147:=n6_;clear n0_ n1_ n2_ n3_ n4_ n5_ n6_;clear hb hbox hg))
  have n0_:=am' (kd' BK147.out);have n1_:=am' (kd' BK148.out);have n2_:=am' (be' HB.out);clear BK147;clear BK148;clear HB;have BK147:=n0_;have BK148:=n1_;have HB:=n2_;clear n0_ n1_ n2_;refine start_ (n:=9) (S:=fun w'=>w'.cell? ⟨gb147,0,none⟩=some (.slice A0_0 l0_0.length c0_0)∧w'.cell? ⟨gb147,1,none⟩=some (.int .i64 a0_1)) (ds:=[]) #[false,false,false,false,false,false,false,false,false] xk' rfl rfl ⟨(bc' BK147.out 0).trans rfl,(bc' BK147.out 1).trans rfl⟩ (fun hHeld=>?_);refine with_tabW spec_toAfter.tab1 spec_toAfter.bits1 (fun HT_ HW_=>?_);generalize w5.drew=w6 at BK147 BK148 HB hHeld ⊢
  refine pure_ (i:=1) (N:=some 11) (v:=?_) (a':=?_) #[false,true,false,false,false,false,false,false,false] rfl rfl (any_of HT_.out xk') (fun _ _ _ h=>h) (Or.inl ⟨by rfl,?_⟩) ?_ ?_
  rotate_left
  ·
   intro w';go_simp;with_reducible rfl
  rotate_left
  ·
   simp only[Act.put,sa',sb',sc',i64_w,i32_w];rfl
  refine pure_ (i:=4) (N:=some 14) (v:=?_) (a':=?_) #[false,true,false,false,true,false,false,false,false] rfl rfl (any_of HT_.out xk') (fun _ _ _ h=>h) (Or.inl ⟨by rfl,?_⟩) ?_ ?_
  rotate_left
  ·
   intro w';go_simp;with_reducible rfl
  rotate_left
  ·
   simp only[Act.put,sa',sb',sc',i64_w,i32_w];rfl
  refine take_ (i:=2) (N:=some 12) (v:=?_) (a':=?_) #[false,true,true,false,true,false,false,false,false] rfl rfl (take_ofW HT_.out HW_.out xk') (fun _ _ _ h=>h) (Or.inl ⟨by rfl,?_⟩) hHeld ?_ ?_
  rotate_left
  ·
   rintro w' ⟨s0,s1⟩
   go_simp;with_reducible rfl
  rotate_left
  ·
   simp only[Act.put,sa',sb',sc',i64_w,i32_w];rfl
  refine take_ (i:=5) (N:=some 15) (v:=?_) (a':=?_) #[false,true,true,false,true,true,false,false,false] rfl rfl (take_ofW HT_.out HW_.out xk') (fun _ _ _ h=>h) (Or.inl ⟨by rfl,?_⟩) hHeld ?_ ?_
  rotate_left
  ·
   rintro w' ⟨s0,s1⟩
   go_simp;with_reducible rfl
  rotate_left
  ·
   simp only[Act.put,sa',sb',sc',i64_w,i32_w];rfl
  refine join_ (σ:=Value × Value × Nat) 1 #[true,true,true,true,true,true,true,true,false] (fun s_=>[(10,s_.1),(13,s_.2.1),(5, .pointer (some ⟨s_.2.2,0,none⟩)),(16, .agg #[s_.2.1, .int .i64 a0_1])]) (fun s_ w'=>(w'.cell? ⟨gb147,0,none⟩=some (.slice A0_0 l0_0.length c0_0)∧w'.cell? ⟨gb147,1,none⟩=some (.int .i64 a0_1))∧(Kd.R Kd.bool 4 w' w.heap.size (fun _=>True) s_.2.1 y152)∧(w'.heap[gb147]? = some (.cells #[.slice A0_0 l0_0.length c0_0, .int .i64 a0_1] 32 (0,0)))∧(w'.heap[gb148]? = some (.cells #[.slice none 0 0, .int .i64 0] 32 (0,0)))∧(w'.heap[s_.2.2]? = some (.cells #[.slice none 0 0, .int .i64 0] 32 (0,0)))∧(w.heap.size≤s_.2.2)∧(w.heap.size≤s_.2.2)∧(gb147≠s_.2.2)∧(s_.2.2≠gb147)∧(gb148≠s_.2.2)∧(s_.2.2≠gb148)∧(Below w.heap.size w w')) ?_ ?_
  rotate_left
  ·
   intro hCont;refine two_ (i:=0) (j:=7) (Ni:=some 10) (Nj:=some 5) #[true,true,true,false,true,true,false,false,false] #[false,true,true,false,true,true,false,true,false] rfl rfl rfl rfl (two_of HT_.out xk') (by decide) (by decide) (fun K hK=>?_) (fun K hK=>?_)
   ·
    skip
    refine Kd.R_lit_step Kd.bool _ 4 ?hg (N:=10) ?hd (xs:=([]:List Bool)) (inner:=[]) (ok:=fun _=>True) (okp:=fun _=>True) ?hr ?hp (fun _ hk=>hk) trivial (Below.refl _ _) (Nat.le_refl _) (by simp) ?_;(case hd=>rfl);(case hg=>rfl);(case hr=>first|(go_simp;done)|(go_simp;rfl));(case hp=>exact (Reps.none _ _))
    intro v150 w7 ho8 hb hg_ hnew_;clear hg_ hnew_;(first|rw[← Ny149.out] at ho8|(simp only[Int.reduceToNat] at ho8;rw[← Ny149.out] at ho8))
    have n0_:=am' (Kd.R_lower ho8 (bz' (y2' GE147.out GE148.out)));have n1_:=am' (bb' (g:=gb147) (o := .cells #[.slice A0_0 l0_0.length c0_0, .int .i64 a0_1] 32 (0,0)) (kk' BK147.out) hb);have n2_:=am' (bb' (g:=gb148) (o := .cells #[.slice none 0 0, .int .i64 0] 32 (0,0)) (kk' BK148.out) hb);have n3_:=am' (bt' (y2' GE147.out GE148.out) hb);clear BK147;clear BK148;clear HB;have HO151:=n0_;have BK147:=n1_;have BK148:=n2_;have HB:=n3_;clear n0_ n1_ n2_ n3_;clear hb ho8;refine hK.out _ _ ⟨(bc' BK147.out 0).trans rfl,(bc' BK147.out 1).trans rfl⟩ (fun hHeld=>?_);clear hK K;refine norm_ (a':=?_) ?_ ?_
    rotate_left
    ·
     show Act.put _ (some 10) _=_
     simp only[Act.put,sa',sb',sc',i64_w,i32_w];rfl
    refine two_ (i:=3) (j:=7) (Ni:=some 13) (Nj:=some 5) #[true,true,true,true,true,true,false,false,false] #[true,true,true,false,true,true,false,true,false] rfl rfl rfl rfl (two_of HT_.out xk') (by decide) (by decide) (fun K hK=>?_) (fun K hK=>?_)
    ·
     skip
     refine Kd.R_append_rows_step Kd.bool (w0:=w) w.heap.size (by rfl) (.tmp 10) (.tmp 12) 25 4 (.bool false) 1 rfl Try.underlying25 info4 rfl (by decide) (by omega) v150 y149 l0_0 _ _ _ (fun _=>True) (fun _=>False) rfl rfl ?aO ?aR (fun _ _ h=>h) (fun _ h=>h.elim) ?aF ?aB ?aS ?aL ?_
     (case aR=>exact kc' (cb' HR0_0.out HB.out))
     (case aB=>exact (y2' GE147.out GE148.out))
     (case aF=>exact (fun _ _=>trivial))
     (case aO=>exact (kr' HO151.out))
     (case aS=>exact (bz' (y2' GE147.out GE148.out)))
     (case aL=>have:=LMc3.out;omega)
     intro v153 w9 ho hb hg hat;rw[← Ny152.out] at ho;have n0_:=am' (blk_grown (g:=gb147) (o := .cells #[.slice A0_0 l0_0.length c0_0, .int .i64 a0_1] 32 (0,0)) (kk' BK147.out) hg (Kd.R_ne HO151.out BK147.out (by decide)));have n1_:=am' (blk_grown (g:=gb148) (o := .cells #[.slice none 0 0, .int .i64 0] 32 (0,0)) (kk' BK148.out) hg (Kd.R_ne HO151.out BK148.out (by decide)));have n2_:=am' (hb);have n3_:=am' (ho);clear BK147;clear BK148;clear HB;clear HO151;have BK147:=n0_;have BK148:=n1_;have HB:=n2_;have HO154:=n3_;clear n0_ n1_ n2_ n3_;clear ho hb hg hat;obtain ⟨Ao10,co10,eo10⟩:=Kd.R_slice HO154.out
     (first|subst eo10|(injection eo10 with f1_ f2_ f3_;have f4_:=f1_.symm;have f5_:=f3_.symm;clear f1_ f2_ f3_;subst f4_;subst f5_))
     refine hK.out _ _ ⟨(bc' BK147.out 0).trans rfl,(bc' BK147.out 1).trans rfl⟩ (fun hHeld=>?_);clear hK K;refine norm_ (a':=?_) ?_ ?_
     rotate_left
     ·
      show Act.put _ (some 13) _=_
      simp only[Act.put,sa',sb',sc',i64_w,i32_w];rfl
     refine pure_ (i:=6) (N:=some 16) (v:=?_) (a':=?_) #[true,true,true,true,true,true,true,false,false] rfl rfl (any_of HT_.out xk') (fun _ _ _ h=>h) (Or.inl ⟨by rfl,?_⟩) ?_ ?_
     rotate_left
     ·
      intro w';go_simp;with_reducible rfl
     rotate_left
     ·
      simp only[Act.put,sa',sb',sc',i64_w,i32_w];rfl
     refine one_ (i:=7) (N:=some 5) #[true,true,true,true,true,true,true,true,false] rfl rfl (one_of HT_.out xk') (by decide) (fun K hK=>?_);refine box_step ?hg (N:=5) ?hd (cs:=#[.slice none 0 0, .int .i64 0]) (t:=32) ?hr ?_;(case hd=>rfl);(case hg=>rfl);(case hr=>first|(go_simp;done)|(go_simp;rfl))
     intro gb155 hg w11 hbox hb;have n0_:=am' (rb' (kr' HO154.out) hb);have n1_:=am' (bb' (g:=gb147) (o := .cells #[.slice A0_0 l0_0.length c0_0, .int .i64 a0_1] 32 (0,0)) (kk' BK147.out) hb);have n2_:=am' (bb' (g:=gb148) (o := .cells #[.slice none 0 0, .int .i64 0] 32 (0,0)) (kk' BK148.out) hb);have n3_:=am' (bt' (y2' GE147.out GE148.out) hb);have n4_:=am' (hbox);have n5_:=am' ((by rw[hg];exact (bz' (y2' GE147.out GE148.out)):w.heap.size≤gb155));have n6_:=am' ((by rw[hg];exact (bz' (y2' GE147.out GE148.out)):w.heap.size≤gb155));have n7_:=am' ((by rw[hg];exact Nat.ne_of_lt (blk_lt (g:=gb147) (o := .cells #[.slice A0_0 l0_0.length c0_0, .int .i64 a0_1] 32 (0,0)) (kk' BK147.out)):gb147≠gb155));have n8_:=am' ((by rw[hg];exact Nat.ne_of_gt (blk_lt (g:=gb147) (o := .cells #[.slice A0_0 l0_0.length c0_0, .int .i64 a0_1] 32 (0,0)) (kk' BK147.out)):gb155≠gb147));have n9_:=am' ((by rw[hg];exact Nat.ne_of_lt (blk_lt (g:=gb148) (o := .cells #[.slice none 0 0, .int .i64 0] 32 (0,0)) (kk' BK148.out)):gb148≠gb155));have n10_:=am' ((by rw[hg];exact Nat.ne_of_gt (blk_lt (g:=gb148) (o := .cells #[.slice none 0 0, .int .i64 0] 32 (0,0)) (kk' BK148.out)):gb155≠gb148));clear HO154;clear BK147;clear BK148;clear HB;have HO154:=n0_;have BK147:=n1_;have BK148:=n2_;have HB:=n3_;have BK155:=n4_;have GW155:=n5_;have GE155:=n6_;have NB147_155:=n7_;have NB155_147:=n8_;have NB148_155:=n9_;have NB155_148:=n10_;clear n0_ n1_ n2_ n3_ n4_ n5_ n6_ n7_ n8_ n9_ n10_;clear hb hbox hg;refine hK.out _ _ ⟨(bc' BK147.out 0).trans rfl,(bc' BK147.out 1).trans rfl⟩ (fun hHeld=>?_);clear hK K;refine norm_ (a':=?_) ?_ ?_
     rotate_left
     ·
      show Act.put _ (some 5) _=_
      simp only[Act.put,sa',sb',sc',i64_w,i32_w];rfl
     exact norm_ (by simp only[putAll,Act.put,sa',sb',sc']) (hCont (v150, .slice Ao10 y152.length co10,gb155) _ ⟨hHeld,(kr' HO154.out),(kk' BK147.out),(kk' BK148.out),(kk' BK155.out),GW155.out,GE155.out,NB147_155.out,NB155_147.out,NB148_155.out,NB155_148.out,(y3' GE147.out GE148.out GE155.out)⟩)
    ·
     skip
     refine box_step ?hg (N:=5) ?hd (cs:=#[.slice none 0 0, .int .i64 0]) (t:=32) ?hr ?_;(case hd=>rfl);(case hg=>rfl);(case hr=>first|(go_simp;done)|(go_simp;rfl))
     intro gb155 hg w9 hbox hb;have n0_:=am' (rb' (kr' HO151.out) hb);have n1_:=am' (bb' (g:=gb147) (o := .cells #[.slice A0_0 l0_0.length c0_0, .int .i64 a0_1] 32 (0,0)) (kk' BK147.out) hb);have n2_:=am' (bb' (g:=gb148) (o := .cells #[.slice none 0 0, .int .i64 0] 32 (0,0)) (kk' BK148.out) hb);have n3_:=am' (bt' (y2' GE147.out GE148.out) hb);have n4_:=am' (hbox);have n5_:=am' ((by rw[hg];exact (bz' (y2' GE147.out GE148.out)):w.heap.size≤gb155));have n6_:=am' ((by rw[hg];exact (bz' (y2' GE147.out GE148.out)):w.heap.size≤gb155));have n7_:=am' ((by rw[hg];exact Nat.ne_of_lt (blk_lt (g:=gb147) (o := .cells #[.slice A0_0 l0_0.length c0_0, .int .i64 a0_1] 32 (0,0)) (kk' BK147.out)):gb147≠gb155));have n8_:=am' ((by rw[hg];exact Nat.ne_of_gt (blk_lt (g:=gb147) (o := .cells #[.slice A0_0 l0_0.length c0_0, .int .i64 a0_1] 32 (0,0)) (kk' BK147.out)):gb155≠gb147));have n9_:=am' ((by rw[hg];exact Nat.ne_of_lt (blk_lt (g:=gb148) (o := .cells #[.slice none 0 0, .int .i64 0] 32 (0,0)) (kk' BK148.out)):gb148≠gb155));have n10_:=am' ((by rw[hg];exact Nat.ne_of_gt (blk_lt (g:=gb148) (o := .cells #[.slice none 0 0, .int .i64 0] 32 (0,0)) (kk' BK148.out)):gb155≠gb148));clear HO151;clear BK147;clear BK148;clear HB;have HO151:=n0_;have BK147:=n1_;have BK148:=n2_;have HB:=n3_;have BK155:=n4_;have GW155:=n5_;have GE155:=n6_;have NB147_155:=n7_;have NB155_147:=n8_;have NB148_155:=n9_;have NB155_148:=n10_;clear n0_ n1_ n2_ n3_ n4_ n5_ n6_ n7_ n8_ n9_ n10_;clear hb hbox hg;refine hK.out _ _ ⟨(bc' BK147.out 0).trans rfl,(bc' BK147.out 1).trans rfl⟩ (fun hHeld=>?_);clear hK K;refine norm_ (a':=?_) ?_ ?_
     rotate_left
     ·
      show Act.put _ (some 5) _=_
      simp only[Act.put,sa',sb',sc',i64_w,i32_w];rfl
     refine one_ (i:=3) (N:=some 13) #[true,true,true,true,true,true,false,true,false] rfl rfl (one_of HT_.out xk') (by decide) (fun K hK=>?_);refine Kd.R_append_rows_step Kd.bool (w0:=w) w.heap.size (by rfl) (.tmp 10) (.tmp 12) 25 4 (.bool false) 1 rfl Try.underlying25 info4 rfl (by decide) (by omega) v150 y149 l0_0 _ _ _ (fun _=>True) (fun _=>False) rfl rfl ?aO ?aR (fun _ _ h=>h) (fun _ h=>h.elim) ?aF ?aB ?aS ?aL ?_
     (case aR=>exact kc' (cb' HR0_0.out HB.out))
     (case aB=>exact (y3' GE147.out GE148.out GE155.out))
     (case aF=>exact (fun _ _=>trivial))
     (case aO=>exact (kr' HO151.out))
     (case aS=>exact (bz' (y3' GE147.out GE148.out GE155.out)))
     (case aL=>have:=LMc3.out;omega)
     intro v153 w10 ho hb hg hat;rw[← Ny152.out] at ho;have n0_:=am' (blk_grown (g:=gb147) (o := .cells #[.slice A0_0 l0_0.length c0_0, .int .i64 a0_1] 32 (0,0)) (kk' BK147.out) hg (Kd.R_ne HO151.out BK147.out (by decide)));have n1_:=am' (blk_grown (g:=gb148) (o := .cells #[.slice none 0 0, .int .i64 0] 32 (0,0)) (kk' BK148.out) hg (Kd.R_ne HO151.out BK148.out (by decide)));have n2_:=am' (blk_grown (g:=gb155) (o := .cells #[.slice none 0 0, .int .i64 0] 32 (0,0)) (kk' BK155.out) hg (Kd.R_ne HO151.out BK155.out (by decide)));have n3_:=am' (hb);have n4_:=am' (ho);clear BK147;clear BK148;clear BK155;clear HB;clear HO151;have BK147:=n0_;have BK148:=n1_;have BK155:=n2_;have HB:=n3_;have HO154:=n4_;clear n0_ n1_ n2_ n3_ n4_;clear ho hb hg hat;obtain ⟨Ao11,co11,eo11⟩:=Kd.R_slice HO154.out
     (first|subst eo11|(injection eo11 with f1_ f2_ f3_;have f4_:=f1_.symm;have f5_:=f3_.symm;clear f1_ f2_ f3_;subst f4_;subst f5_))
     refine hK.out _ _ ⟨(bc' BK147.out 0).trans rfl,(bc' BK147.out 1).trans rfl⟩ (fun hHeld=>?_);clear hK K;refine norm_ (a':=?_) ?_ ?_
     rotate_left
     ·
      show Act.put _ (some 13) _=_
      simp only[Act.put,sa',sb',sc',i64_w,i32_w];rfl
     refine pure_ (i:=6) (N:=some 16) (v:=?_) (a':=?_) #[true,true,true,true,true,true,true,true,false] rfl rfl (any_of HT_.out xk') (fun _ _ _ h=>h) (Or.inl ⟨by rfl,?_⟩) ?_ ?_
     rotate_left
     ·
      intro w';go_simp;with_reducible rfl
     rotate_left
     ·
      simp only[Act.put,sa',sb',sc',i64_w,i32_w];rfl
     exact norm_ (by simp only[putAll,Act.put,sa',sb',sc']) (hCont (v150, .slice Ao11 y152.length co11,gb155) _ ⟨hHeld,(kr' HO154.out),(kk' BK147.out),(kk' BK148.out),(kk' BK155.out),GW155.out,GE155.out,NB147_155.out,NB155_147.out,NB148_155.out,NB155_148.out,(y3' GE147.out GE148.out GE155.out)⟩)
   ·
    skip
    refine box_step ?hg (N:=5) ?hd (cs:=#[.slice none 0 0, .int .i64 0]) (t:=32) ?hr ?_;(case hd=>rfl);(case hg=>rfl);(case hr=>first|(go_simp;done)|(go_simp;rfl))
    intro gb155 hg w7 hbox hb;have n0_:=am' (bb' (g:=gb147) (o := .cells #[.slice A0_0 l0_0.length c0_0, .int .i64 a0_1] 32 (0,0)) (kk' BK147.out) hb);have n1_:=am' (bb' (g:=gb148) (o := .cells #[.slice none 0 0, .int .i64 0] 32 (0,0)) (kk' BK148.out) hb);have n2_:=am' (bt' (y2' GE147.out GE148.out) hb);have n3_:=am' (hbox);have n4_:=am' ((by rw[hg];exact (bz' (y2' GE147.out GE148.out)):w.heap.size≤gb155));have n5_:=am' ((by rw[hg];exact (bz' (y2' GE147.out GE148.out)):w.heap.size≤gb155));have n6_:=am' ((by rw[hg];exact Nat.ne_of_lt (blk_lt (g:=gb147) (o := .cells #[.slice A0_0 l0_0.length c0_0, .int .i64 a0_1] 32 (0,0)) (kk' BK147.out)):gb147≠gb155));have n7_:=am' ((by rw[hg];exact Nat.ne_of_gt (blk_lt (g:=gb147) (o := .cells #[.slice A0_0 l0_0.length c0_0, .int .i64 a0_1] 32 (0,0)) (kk' BK147.out)):gb155≠gb147));have n8_:=am' ((by rw[hg];exact Nat.ne_of_lt (blk_lt (g:=gb148) (o := .cells #[.slice none 0 0, .int .i64 0] 32 (0,0)) (kk' BK148.out)):gb148≠gb155));have n9_:=am' ((by rw[hg];exact Nat.ne_of_gt (blk_lt (g:=gb148) (o := .cells #[.slice none 0 0, .int .i64 0] 32 (0,0)) (kk' BK148.out)):gb155≠gb148));clear BK147;clear BK148;clear HB;have BK147:=n0_;have BK148:=n1_;have HB:=n2_;have BK155:=n3_;have GW155:=n4_;have GE155:=n5_;have NB147_155:=n6_;have NB155_147:=n7_;have NB148_155:=n8_;have NB155_148:=n9_;clear n0_ n1_ n2_ n3_ n4_ n5_ n6_ n7_ n8_ n9_;clear hb hbox hg;refine hK.out _ _ ⟨(bc' BK147.out 0).trans rfl,(bc' BK147.out 1).trans rfl⟩ (fun hHeld=>?_);clear hK K;refine norm_ (a':=?_) ?_ ?_
    rotate_left
    ·
     show Act.put _ (some 5) _=_
     simp only[Act.put,sa',sb',sc',i64_w,i32_w];rfl
    refine one_ (i:=0) (N:=some 10) #[true,true,true,false,true,true,false,true,false] rfl rfl (one_of HT_.out xk') (by decide) (fun K hK=>?_);refine Kd.R_lit_step Kd.bool _ 4 ?hg (N:=10) ?hd (xs:=([]:List Bool)) (inner:=[]) (ok:=fun _=>True) (okp:=fun _=>True) ?hr ?hp (fun _ hk=>hk) trivial (Below.refl _ _) (Nat.le_refl _) (by simp) ?_;(case hd=>rfl);(case hg=>rfl);(case hr=>first|(go_simp;done)|(go_simp;rfl));(case hp=>exact (Reps.none _ _))
    intro v150 w8 ho9 hb hg_ hnew_;clear hg_ hnew_;(first|rw[← Ny149.out] at ho9|(simp only[Int.reduceToNat] at ho9;rw[← Ny149.out] at ho9))
    have n0_:=am' (Kd.R_lower ho9 (bz' (y3' GE147.out GE148.out GE155.out)));have n1_:=am' (bb' (g:=gb147) (o := .cells #[.slice A0_0 l0_0.length c0_0, .int .i64 a0_1] 32 (0,0)) (kk' BK147.out) hb);have n2_:=am' (bb' (g:=gb148) (o := .cells #[.slice none 0 0, .int .i64 0] 32 (0,0)) (kk' BK148.out) hb);have n3_:=am' (bb' (g:=gb155) (o := .cells #[.slice none 0 0, .int .i64 0] 32 (0,0)) (kk' BK155.out) hb);have n4_:=am' (bt' (y3' GE147.out GE148.out GE155.out) hb);clear BK147;clear BK148;clear BK155;clear HB;have HO151:=n0_;have BK147:=n1_;have BK148:=n2_;have BK155:=n3_;have HB:=n4_;clear n0_ n1_ n2_ n3_ n4_;clear hb ho9;refine hK.out _ _ ⟨(bc' BK147.out 0).trans rfl,(bc' BK147.out 1).trans rfl⟩ (fun hHeld=>?_);clear hK K;refine norm_ (a':=?_) ?_ ?_
    rotate_left
    ·
     show Act.put _ (some 10) _=_
     simp only[Act.put,sa',sb',sc',i64_w,i32_w];rfl
    refine one_ (i:=3) (N:=some 13) #[true,true,true,true,true,true,false,true,false] rfl rfl (one_of HT_.out xk') (by decide) (fun K hK=>?_);refine Kd.R_append_rows_step Kd.bool (w0:=w) w.heap.size (by rfl) (.tmp 10) (.tmp 12) 25 4 (.bool false) 1 rfl Try.underlying25 info4 rfl (by decide) (by omega) v150 y149 l0_0 _ _ _ (fun _=>True) (fun _=>False) rfl rfl ?aO ?aR (fun _ _ h=>h) (fun _ h=>h.elim) ?aF ?aB ?aS ?aL ?_
    (case aR=>exact kc' (cb' HR0_0.out HB.out))
    (case aB=>exact (y3' GE147.out GE148.out GE155.out))
    (case aF=>exact (fun _ _=>trivial))
    (case aO=>exact (kr' HO151.out))
    (case aS=>exact (bz' (y3' GE147.out GE148.out GE155.out)))
    (case aL=>have:=LMc3.out;omega)
    intro v153 w10 ho hb hg hat;rw[← Ny152.out] at ho;have n0_:=am' (blk_grown (g:=gb147) (o := .cells #[.slice A0_0 l0_0.length c0_0, .int .i64 a0_1] 32 (0,0)) (kk' BK147.out) hg (Kd.R_ne HO151.out BK147.out (by decide)));have n1_:=am' (blk_grown (g:=gb148) (o := .cells #[.slice none 0 0, .int .i64 0] 32 (0,0)) (kk' BK148.out) hg (Kd.R_ne HO151.out BK148.out (by decide)));have n2_:=am' (blk_grown (g:=gb155) (o := .cells #[.slice none 0 0, .int .i64 0] 32 (0,0)) (kk' BK155.out) hg (Kd.R_ne HO151.out BK155.out (by decide)));have n3_:=am' (hb);have n4_:=am' (ho);clear BK147;clear BK148;clear BK155;clear HB;clear HO151;have BK147:=n0_;have BK148:=n1_;have BK155:=n2_;have HB:=n3_;have HO154:=n4_;clear n0_ n1_ n2_ n3_ n4_;clear ho hb hg hat;obtain ⟨Ao11,co11,eo11⟩:=Kd.R_slice HO154.out
    (first|subst eo11|(injection eo11 with f1_ f2_ f3_;have f4_:=f1_.symm;have f5_:=f3_.symm;clear f1_ f2_ f3_;subst f4_;subst f5_))
    refine hK.out _ _ ⟨(bc' BK147.out 0).trans rfl,(bc' BK147.out 1).trans rfl⟩ (fun hHeld=>?_);clear hK K;refine norm_ (a':=?_) ?_ ?_
    rotate_left
    ·
     show Act.put _ (some 13) _=_
     simp only[Act.put,sa',sb',sc',i64_w,i32_w];rfl
    refine pure_ (i:=6) (N:=some 16) (v:=?_) (a':=?_) #[true,true,true,true,true,true,true,true,false] rfl rfl (any_of HT_.out xk') (fun _ _ _ h=>h) (Or.inl ⟨by rfl,?_⟩) ?_ ?_
    rotate_left
    ·
     intro w';go_simp;with_reducible rfl
    rotate_left
    ·
     simp only[Act.put,sa',sb',sc',i64_w,i32_w];rfl
    exact norm_ (by simp only[putAll,Act.put,sa',sb',sc']) (hCont (v150, .slice Ao11 y152.length co11,gb155) _ ⟨hHeld,(kr' HO154.out),(kk' BK147.out),(kk' BK148.out),(kk' BK155.out),GW155.out,GE155.out,NB147_155.out,NB155_147.out,NB148_155.out,NB155_148.out,(y3' GE147.out GE148.out GE155.out)⟩)
  rintro ⟨v150,v153,gb155⟩ w12 ⟨hS_,h0_,h1_,h2_,h3_,h4_,h5_,h6_,h7_,h8_,h9_,h10_⟩
  have n0_:Aside0 (Kd.R Kd.bool 4 w12 w.heap.size (fun _=>True) v153 y152):=⟨h0_⟩
  have n1_:Aside0 (w12.heap[gb147]? = some (.cells #[.slice A0_0 l0_0.length c0_0, .int .i64 a0_1] 32 (0,0))):=⟨h1_⟩
  have n2_:Aside0 (w12.heap[gb148]? = some (.cells #[.slice none 0 0, .int .i64 0] 32 (0,0))):=⟨h2_⟩
  have n3_:Aside0 (w12.heap[gb155]? = some (.cells #[.slice none 0 0, .int .i64 0] 32 (0,0))):=⟨h3_⟩
  have n4_:Aside0 (w.heap.size≤gb155):=⟨h4_⟩
  have n5_:Aside0 (w.heap.size≤gb155):=⟨h5_⟩
  have n6_:Aside0 (gb147≠gb155):=⟨h6_⟩
  have n7_:Aside0 (gb155≠gb147):=⟨h7_⟩
  have n8_:Aside0 (gb148≠gb155):=⟨h8_⟩
  have n9_:Aside0 (gb155≠gb148):=⟨h9_⟩
  have n10_:Aside0 (Below w.heap.size w w12):=⟨h10_⟩
  clear BK147;clear BK148;clear HB;clear h0_ h1_ h2_ h3_ h4_ h5_ h6_ h7_ h8_ h9_ h10_;have HO154:=n0_;have BK147:=n1_;have BK148:=n2_;have BK155:=n3_;have GW155:=n4_;have GE155:=n5_;have NB147_155:=n6_;have NB155_147:=n7_;have NB148_155:=n8_;have NB155_148:=n9_;have HB:=n10_;clear n0_ n1_ n2_ n3_ n4_ n5_ n6_ n7_ n8_ n9_ n10_;have hHeld:w12.cell? ⟨gb147,0,none⟩=some (.slice A0_0 l0_0.length c0_0)∧w12.cell? ⟨gb147,1,none⟩=some (.int .i64 a0_1):=hS_;obtain ⟨Ao13,co13,eo13⟩:=Kd.R_slice HO154.out
  (first|subst eo13|(injection eo13 with f1_ f2_ f3_;have f4_:=f1_.symm;have f5_:=f3_.symm;clear f1_ f2_ f3_;subst f4_;subst f5_))
  refine norm_ (a':=?_) ?_ ?_
  rotate_left
  ·
   simp only[putAll,Act.put,sa',sb',sc'];rfl
  refine one_ (i:=8) (N:=none) #[true,true,true,true,true,true,true,true,true] rfl rfl (one_of HT_.out xk') (by decide) (fun K hK=>?_);have hs14:w12.cell? ⟨gb155,0,none⟩=some (.slice none 0 0):=(bc' BK155.out 0).trans rfl;have hfs14:=bf' BK155.out 0;have hns14_0:=NB147_155.out;have hns14_1:=NB148_155.out;have hms14_0:=NB155_147.out;have hms14_1:=NB155_148.out;have hs15:w12.cell? ⟨gb155,1,none⟩=some (.int .i64 0):=(bc' BK155.out 1).trans rfl;have hfs15:=bf' BK155.out 1;have hns15_0:=NB147_155.out;have hns15_1:=NB148_155.out;have hms15_0:=NB155_147.out;have hms15_1:=NB155_148.out;refine skip_ (w1:=?_) (by rfl) rfl ?_ ?_
  rotate_left
  ·
   go_simp;rfl
  refine hK.out _ _ ⟨((cell_far (p:=⟨gb155,_,none⟩) NB147_155.out _).trans (((cell_far (p:=⟨gb155,_,none⟩) NB147_155.out _).trans (hHeld.1)))),((cell_far (p:=⟨gb155,_,none⟩) NB147_155.out _).trans (((cell_far (p:=⟨gb155,_,none⟩) NB147_155.out _).trans (hHeld.2))))⟩ (fun hHeld=>?_);clear hK K;refine done_ (done_of HT_.out xk') ?_
  try go_wp2
  go_loopg [19] k (fun kq v19 w'=>∃ (x19_1:Int) (x156000_1:List Bool) (x156001_1:Int) (u156000:Value),v19 = .int .i64 x19_1∧Aside0 (spec_toAfter.l0 kq l1 (l1.length:Int) x19_1 l0_0 a0_1 x156000_1 x156001_1=some (r1,r2))∧Aside0 (kq≤k)∧Aside0 (Kd.R Kd.bool 4 w' w.heap.size (fun _=>True) u156000 x156000_1)∧Aside0 (w'.heap[gb147]? = some (.cells #[(.slice A0_0 l0_0.length c0_0), .int .i64 a0_1] 32 (0,0)))∧Aside0 (w'.heap[gb148]? = some (.cells #[(.slice none 0 0), .int .i64 0] 32 (0,0)))∧Aside0 (w'.heap[gb155]? = some (.cells #[u156000, .int .i64 x156001_1] 32 (0,0)))∧Aside0 (Below w.heap.size w w'))
  case atStart=>exact ⟨(0),(y152),(a0_1),(.slice Ao13 y152.length co13),xs',H',⟨Nat.le_refl _⟩,⟨by (with_reducible repeat (first|apply ra'|apply rn'|apply rw'));exact Kd.R_mono (Kd.R_far (p:=⟨gb155,1,none⟩) (Kd.R_far (p:=⟨gb155,0,none⟩) (Kd.R_types HO154.out BK155.out (by decide)) (fun _ hk=>hk.2) (.slice Ao13 y152.length co13)) (fun _ hk=>hk.2) (.int .i64 a0_1)) (fun _ hk=>trivial)⟩,⟨by (with_reducible repeat (first|refine kn' ?_ _|refine kd' ?_|refine ka' ?_ _));refine blk_far ?_ NB147_155.out _;(with_reducible repeat (first|refine kn' ?_ _|refine kd' ?_|refine ka' ?_ _));refine blk_far ?_ NB147_155.out _;(with_reducible repeat (first|refine kn' ?_ _|refine kd' ?_|refine ka' ?_ _));exact BK147.out⟩,⟨by (with_reducible repeat (first|refine kn' ?_ _|refine kd' ?_|refine ka' ?_ _));refine blk_far ?_ NB148_155.out _;(with_reducible repeat (first|refine kn' ?_ _|refine kd' ?_|refine ka' ?_ _));refine blk_far ?_ NB148_155.out _;(with_reducible repeat (first|refine kn' ?_ _|refine kd' ?_|refine ka' ?_ _));exact BK148.out⟩,⟨by (with_reducible repeat (first|refine kn' ?_ _|refine kd' ?_|refine ka' ?_ _));refine blk_put (cs:=#[.slice Ao13 y152.length co13, .int .i64 0]) ?_ 1 _ rfl;(with_reducible repeat (first|refine kn' ?_ _|refine kd' ?_|refine ka' ?_ _));refine blk_put (cs:=#[.slice none 0 0, .int .i64 0]) ?_ 0 _ rfl;(with_reducible repeat (first|refine kn' ?_ _|refine kd' ?_|refine ka' ?_ _));exact BK155.out⟩,⟨y3' GE147.out GE148.out GE155.out⟩⟩
  case round =>
   clear H';try clear c1
   try clear p2
   try clear c3
   try clear c5
   obtain ⟨x19_1,x156000_1,x156001_1,u156000,rfl,HA,HK1,HO_156000,BK147,BK148,BK155,HB⟩:=hrel;cases gk with
   | zero=>exact absurd HA.out (by simp[spec_toAfter.l0])
   | succ k1 =>
    have H:=HA.out;clear HA;simp only[spec_toAfter.l0] at H;by_cases c16:x19_1 < (l1.length:Int)
    ·
     rw[if_pos c16] at H;have c16b0:decide (x19_1 < (l1.length:Int))=true:=dt' c16;clear c16;by_cases c17:0≤x19_1
     ·
      rw[if_pos c17] at H;have c17b0:decide (0≤x19_1)=true:=dt' c17;clear c17;by_cases c18:x19_1 < (l1.length:Int)
      ·
       rw[if_pos c18] at H;have c18b0:decide (x19_1 < (l1.length:Int))=true:=dt' c18;clear c18;by_cases c19:0 < ((rd_L2 l1 x19_1).length:Int)
       ·
        rw[if_pos c19] at H;have c19b0:decide (0 < ((rd_L2 l1 x19_1).length:Int))=true:=dt' c19;have c19b1:decide (0 < (rd_L2 l1 x19_1).length)=true:=dt' (by omega);clear c19;by_cases c20:0≤(rd (rd_L2 l1 x19_1) 0)
        ·
         rw[if_pos c20] at H;have c20b0:decide (0≤(rd (rd_L2 l1 x19_1) 0))=true:=dt' c20;clear c20;by_cases c21:(rd (rd_L2 l1 x19_1) 0) < (l0_0.length:Int)
         ·
          rw[if_pos c21] at H;have c21b0:decide ((rd (rd_L2 l1 x19_1) 0) < (l0_0.length:Int))=true:=dt' c21;clear c21;have HC22:=am' H;clear H;have p156:0≤(x19_1:Int):=od' xa';have q156:x19_1 < (l1.length:Int):=od' xa';obtain ⟨ad156,A156_0,c156_0,e156,hx156_0,hl156_0,hi156_0⟩:=at_L2 HR1.out x19_1 p156 q156;cases e156;replace hx156_0:=(HB.out.cell (bl' w _ hx156_0)).trans hx156_0;have HR156_0:=am' hi156_0;have HC156_0:=am' hl156_0;clear hi156_0 hl156_0;replace p156:=eq_true p156;replace q156:=eq_true q156
          try go_wp2
          have n0_:=am' (rw' HO_156000.out);have n1_:=am' (kd' BK147.out);have n2_:=am' (kd' BK148.out);have n3_:=am' (kd' BK155.out);have n4_:=am' (be' HB.out);clear HO_156000;clear BK147;clear BK148;clear BK155;clear HB;have HO_156000:=n0_;have BK147:=n1_;have BK148:=n2_;have BK155:=n3_;have HB:=n4_;clear n0_ n1_ n2_ n3_ n4_;have p157:0≤(0:Int):=(by omega)
          have q157:0 < ((rd_L2 l1 x19_1).length:Int):=od' xa';obtain ⟨ad157,e157,hx157_0⟩:=Kd.at_int HR156_0.out 0 p157 q157;have hw157_0:=hx157_0;(try rw [show ((0:Int)).toNat=0 from rfl] at hw157_0)
          (try rw [show 0 * 1=0 from rfl] at hw157_0)
          (try rw [Addr.add_zero'] at hw157_0)
          cases e157
          have qi157:(0 < (rd_L2 l1 x19_1).length)=True:=eq_true (by omega)
          (try rw [show ((0:Int)).toNat=0 from rfl] at hx157_0)
          (try rw [Addr.add_zero'] at hx157_0)
          replace hx157_0:=(HB.out.cell (bl' w _ hx157_0)).trans hx157_0;replace p157:=eq_true p157;replace q157:=eq_true q157;have p158:0≤((rd (rd_L2 l1 x19_1) 0):Int):=od' xa';have q158:(rd (rd_L2 l1 x19_1) 0) < (l0_0.length:Int):=od' xa';obtain ⟨ad158,e158,hx158_0⟩:=Kd.at_bool HR0_0.out (rd (rd_L2 l1 x19_1) 0) p158 q158;have hw158_0:=hx158_0;cases e158;replace hx158_0:=(HB.out.cell (bl' w _ hx158_0)).trans hx158_0;replace p158:=eq_true p158;replace q158:=eq_true q158;refine start_ (n:=7) (S:=fun w'=>w'.cell? ⟨gb147,0,none⟩=some (.slice (some ad158) l0_0.length c0_0)∧w'.cell? ⟨gb147,1,none⟩=some (.int .i64 a0_1)∧w'.cell? ad157=some (.int .i64 (rd (rd_L2 l1 x19_1) 0))∧w'.cell? (ad158.add ((rd (rd_L2 l1 x19_1) 0)).toNat)=some (.bool (rdOf false l0_0 (rd (rd_L2 l1 x19_1) 0)))) (ds:=[]) #[false,false,false,false,false,false,false] xk' rfl rfl ⟨(bc' BK147.out 0).trans rfl,(bc' BK147.out 1).trans rfl,((HB.out.cell (bl' w _ hw157_0)).trans hw157_0),((HB.out.cell (bl' w _ hw158_0)).trans hw158_0)⟩ (fun hHeld=>?_);generalize wr.drew=w23 at HO_156000 BK147 BK148 BK155 HB hx157_0 hx158_0 hHeld ⊢
          refine pure_ (i:=0) (N:=some 23) (v:=?_) (a':=?_) #[true,false,false,false,false,false,false] rfl rfl xk' (fun _ _ _ h=>h) (Or.inl ⟨by rfl,?_⟩) ?_ ?_
          rotate_left
          ·
           intro w';go_simp;with_reducible rfl
          rotate_left
          ·
           simp only[Act.put,sa',sb',sc',i64_w,i32_w];rfl
          refine pure_ (i:=2) (N:=some 25) (v:=?_) (a':=?_) #[true,false,true,false,false,false,false] rfl rfl xk' (fun _ _ _ h=>h) (Or.inl ⟨by rfl,?_⟩) ?_ ?_
          rotate_left
          ·
           intro w';go_simp;with_reducible rfl
          rotate_left
          ·
           simp only[Act.put,sa',sb',sc',i64_w,i32_w];rfl
          refine pure_ (i:=3) (N:=some 26) (v:=?_) (a':=?_) #[true,false,true,true,false,false,false] rfl rfl xk' (fun _ _ _ h=>h) (Or.inl ⟨by rfl,?_⟩) ?_ ?_
          rotate_left
          ·
           intro w';go_simp;with_reducible rfl
          rotate_left
          ·
           simp only[Act.put,sa',sb',sc',i64_w,i32_w];rfl
          refine take_ (i:=1) (N:=some 24) (v:=?_) (a':=?_) #[true,true,true,true,false,false,false] rfl rfl xk' (fun _ _ _ h=>h) (Or.inl ⟨by rfl,?_⟩) hHeld ?_ ?_
          rotate_left
          ·
           rintro w' ⟨s0,s1,s2,s3⟩
           go_simp;with_reducible rfl
          rotate_left
          ·
           simp only[Act.put,sa',sb',sc',i64_w,i32_w];rfl
          refine take_ (i:=4) (N:=some 27) (v:=?_) (a':=?_) #[true,true,true,true,true,false,false] rfl rfl xk' (fun _ _ _ h=>h) (Or.inl ⟨by rfl,?_⟩) hHeld ?_ ?_
          rotate_left
          ·
           rintro w' ⟨s0,s1,s2,s3⟩
           go_simp;with_reducible rfl
          rotate_left
          ·
           simp only[Act.put,sa',sb',sc',i64_w,i32_w];rfl
          refine pure_ (i:=5) (N:=some 28) (v:=?_) (a':=?_) #[true,true,true,true,true,true,false] rfl rfl xk' (fun _ _ _ h=>h) (Or.inl ⟨by rfl,?_⟩) ?_ ?_
          rotate_left
          ·
           intro w';go_simp;with_reducible rfl
          rotate_left
          ·
           simp only[Act.put,sa',sb',sc',i64_w,i32_w];rfl
          refine take_ (i:=6) (N:=some 29) (v:=?_) (a':=?_) #[true,true,true,true,true,true,true] rfl rfl xk' (fun _ _ _ h=>h) (Or.inl ⟨by rfl,?_⟩) hHeld ?_ ?_
          rotate_left
          ·
           rintro w' ⟨s0,s1,s2,s3⟩
           go_simp;with_reducible rfl
          rotate_left
          ·
           simp only[Act.put,sa',sb',sc',i64_w,i32_w];rfl
          refine done_ xk' ?_
          go_upto_if 29 with (fail)
          go_cut [] (fun wc=>∃ (kq:Nat) (x156001_21:Int),Aside0 (spec_toAfter.j1 kq (rd_L2 l1 x19_1) l1 (l1.length:Int) x19_1 l0_0 a0_1 x156000_1 x156001_21=some (r1,r2))∧Aside0 (kq≤k1)∧Aside0 (Kd.R Kd.bool 4 wc w.heap.size (fun _=>True) u156000 x156000_1)∧Aside0 (wc.heap[gb147]? = some (.cells #[(.slice (some ad158) l0_0.length c0_0), .int .i64 a0_1] 32 (0,0)))∧Aside0 (wc.heap[gb148]? = some (.cells #[(.slice none 0 0), .int .i64 0] 32 (0,0)))∧Aside0 (wc.heap[gb155]? = some (.cells #[u156000, .int .i64 x156001_21] 32 (0,0)))∧Aside0 (Below w.heap.size w wc))
          case first =>
           have H:=HC22.out;clear HC22;obtain ⟨bq24,hbq24⟩:∃ b_:Bool,b_=(rdOf false l0_0 (rd (rd_L2 l1 x19_1) 0)):=⟨_,rfl⟩
           replace H:(if bq24=true then (spec_toAfter.j1 k1 (rd_L2 l1 x19_1) l1 (l1.length:Int) x19_1 l0_0 a0_1 x156000_1 (wrap64 (x156001_1 - 1))) else (spec_toAfter.j1 k1 (rd_L2 l1 x19_1) l1 (l1.length:Int) x19_1 l0_0 a0_1 x156000_1 (wrap64 (x156001_1+1))))=some (r1,r2):=by rw[← hbq24] at H;exact H
           have Nbq24:=am' hbq24;clear hbq24;(try rw [← Nbq24.out])
           by_cases c25:bq24=true
           ·
            subst c25;have H1:(spec_toAfter.j1 k1 (rd_L2 l1 x19_1) l1 (l1.length:Int) x19_1 l0_0 a0_1 x156000_1 (wrap64 (x156001_1 - 1)))=some (r1,r2):=by rw[if_pos rfl] at H;exact H
            clear H;have H:=H1;clear H1;have H':=am' H;clear H;have hnb26:=NB155_147.out;have hnc26:=NB147_155.out;have hnb27:=NB155_148.out;have hnc27:=NB148_155.out;have hcz28_0:w23.cell? ⟨gb155,0,none⟩=some (u156000):=(bc' BK155.out 0).trans rfl;have hcz28_1:w23.cell? ⟨gb155,1,none⟩=some (.int .i64 x156001_1):=(bc' BK155.out 1).trans rfl;have hfz28_0:=bf' BK155.out 0;have hfz28_1:=bf' BK155.out 1;go_wp2;go_meet
            case rel=>exact ⟨_,(wrap64 (x156001_1 - 1)),H',⟨by have:=HK1.out;first|omega|exact Nat.le_refl _⟩,⟨by (with_reducible repeat (first|apply ra'|apply rn'|apply rw'));exact Kd.R_mono (Kd.R_far (p:=⟨gb155,1,none⟩) (Kd.R_types HO_156000.out BK155.out (by decide)) (fun _ hk=>hk.2) (.int .i64 (wrap64 (x156001_1 - 1)))) (fun _ hk=>trivial)⟩,⟨by (with_reducible repeat (first|refine kn' ?_ _|refine kd' ?_|refine ka' ?_ _));refine blk_far ?_ NB147_155.out _;(with_reducible repeat (first|refine kn' ?_ _|refine kd' ?_|refine ka' ?_ _));exact BK147.out⟩,⟨by (with_reducible repeat (first|refine kn' ?_ _|refine kd' ?_|refine ka' ?_ _));refine blk_far ?_ NB148_155.out _;(with_reducible repeat (first|refine kn' ?_ _|refine kd' ?_|refine ka' ?_ _));exact BK148.out⟩,⟨by (with_reducible repeat (first|refine kn' ?_ _|refine kd' ?_|refine ka' ?_ _));refine blk_put (cs:=#[u156000, .int .i64 x156001_1]) ?_ 1 _ rfl;(with_reducible repeat (first|refine kn' ?_ _|refine kd' ?_|refine ka' ?_ _));exact BK155.out⟩,⟨y3' GE147.out GE148.out GE155.out⟩⟩
           ·
            replace c25:=Bool.eq_false_iff.mpr c25;subst c25;have H1:(spec_toAfter.j1 k1 (rd_L2 l1 x19_1) l1 (l1.length:Int) x19_1 l0_0 a0_1 x156000_1 (wrap64 (x156001_1+1)))=some (r1,r2):=by rw[if_neg (show ¬ (false=true) by decide)] at H;exact H
            clear H;have H:=H1;clear H1;have H':=am' H;clear H;have hnb29:=NB155_147.out;have hnc29:=NB147_155.out;have hnb30:=NB155_148.out;have hnc30:=NB148_155.out;have hcz31_0:w23.cell? ⟨gb155,0,none⟩=some (u156000):=(bc' BK155.out 0).trans rfl;have hcz31_1:w23.cell? ⟨gb155,1,none⟩=some (.int .i64 x156001_1):=(bc' BK155.out 1).trans rfl;have hfz31_0:=bf' BK155.out 0;have hfz31_1:=bf' BK155.out 1;go_wp2;go_meet
            case rel=>exact ⟨_,(wrap64 (x156001_1+1)),H',⟨by have:=HK1.out;first|omega|exact Nat.le_refl _⟩,⟨by (with_reducible repeat (first|apply ra'|apply rn'|apply rw'));exact Kd.R_mono (Kd.R_far (p:=⟨gb155,1,none⟩) (Kd.R_types HO_156000.out BK155.out (by decide)) (fun _ hk=>hk.2) (.int .i64 (wrap64 (x156001_1+1)))) (fun _ hk=>trivial)⟩,⟨by (with_reducible repeat (first|refine kn' ?_ _|refine kd' ?_|refine ka' ?_ _));refine blk_far ?_ NB147_155.out _;(with_reducible repeat (first|refine kn' ?_ _|refine kd' ?_|refine ka' ?_ _));exact BK147.out⟩,⟨by (with_reducible repeat (first|refine kn' ?_ _|refine kd' ?_|refine ka' ?_ _));refine blk_far ?_ NB148_155.out _;(with_reducible repeat (first|refine kn' ?_ _|refine kd' ?_|refine ka' ?_ _));exact BK148.out⟩,⟨by (with_reducible repeat (first|refine kn' ?_ _|refine kd' ?_|refine ka' ?_ _));refine blk_put (cs:=#[u156000, .int .i64 x156001_1]) ?_ 1 _ rfl;(with_reducible repeat (first|refine kn' ?_ _|refine kd' ?_|refine ka' ?_ _));exact BK155.out⟩,⟨y3' GE147.out GE148.out GE155.out⟩⟩
          case rest =>
           clear HC22;try clear c1
           try clear p1
           try clear q1
           try clear hx1
           try clear qi1
           try clear c2
           try clear p2
           try clear q2
           try clear c3
           try clear c5
           try clear p6
           try clear c15
           try clear p15
           try clear q15
           try clear hx15
           try clear qi15
           try clear c16
           try clear c16b0
           try clear c17
           try clear c17b0
           try clear c18
           try clear c18b0
           try clear c19
           try clear c19b0
           try clear c19b1
           try clear c20
           try clear c20b0
           try clear c21
           try clear c21b0
           try clear q24
           try clear c25
           try clear c26
           try clear c27
           try clear c29
           try clear c30
           try clear hcz28_0
           try clear hcz28_1
           try clear hcz31_0
           try clear hcz31_1
           try clear hfz28_0
           try clear hfz28_1
           try clear hfz31_0
           try clear hfz31_1
           try clear hx156_0
           try clear hx157_0
           try clear hx158_0
           try clear p156
           try clear p157
           try clear p158
           try clear p2
           try clear q156
           try clear q157
           try clear q158
           obtain ⟨kq,x156001_21,HA,HJ21,HO_156000,BK147,BK148,BK155,HB⟩:=hcut;cases kq with
           | zero=>exact absurd HA.out (by simp[spec_toAfter.j1])
           | succ kj21 =>
            have H:=HA.out;clear HA;simp only[spec_toAfter.j1] at H;have H':=am' H;clear H;go_wp2;go_loopg [40] kj21 (fun kq v40 w'=>∃ (x40_3:Int) (x156000_3:List Bool) (u156000:Value),v40 = .int .i64 x40_3∧Aside0 (spec_toAfter.l1 kq l1 (l1.length:Int) x19_1 (rd_L2 l1 x19_1) ((rd_L2 l1 x19_1).length:Int) x40_3 l0_0 a0_1 x156000_3 x156001_21=some (r1,r2))∧Aside0 (kq≤kj21)∧Aside0 (Kd.R Kd.bool 4 w' w.heap.size (fun _=>True) u156000 x156000_3)∧Aside0 (w'.heap[gb147]? = some (.cells #[(.slice (some ad158) l0_0.length c0_0), .int .i64 a0_1] 32 (0,0)))∧Aside0 (w'.heap[gb148]? = some (.cells #[(.slice none 0 0), .int .i64 0] 32 (0,0)))∧Aside0 (w'.heap[gb155]? = some (.cells #[u156000, .int .i64 x156001_21] 32 (0,0)))∧Aside0 (Below w.heap.size w w'))
            case atStart=>exact ⟨(0),(x156000_1),(u156000),xs',H',⟨Nat.le_refl _⟩,⟨kr' HO_156000.out⟩,⟨kk' BK147.out⟩,⟨kk' BK148.out⟩,⟨kk' BK155.out⟩,⟨y3' GE147.out GE148.out GE155.out⟩⟩
            case round =>
             clear H';try clear c1
             try clear p1
             try clear q1
             try clear hx1
             try clear qi1
             try clear c2
             try clear p2
             try clear q2
             try clear c3
             try clear c5
             try clear p6
             try clear c15
             try clear p15
             try clear q15
             try clear hx15
             try clear qi15
             try clear c16
             try clear c16b0
             try clear c17
             try clear c17b0
             try clear c18
             try clear c18b0
             try clear c19
             try clear c19b0
             try clear c19b1
             try clear c20
             try clear c20b0
             try clear c21
             try clear c21b0
             try clear q24
             try clear c25
             try clear c26
             try clear c27
             try clear c29
             try clear c30
             try clear hcz28_0
             try clear hcz28_1
             try clear hcz31_0
             try clear hcz31_1
             try clear hfz28_0
             try clear hfz28_1
             try clear hfz31_0
             try clear hfz31_1
             try clear hx156_0
             try clear hx157_0
             try clear hx158_0
             try clear p1
             try clear p15
             try clear p156
             try clear p157
             try clear p158
             try clear p2
             try clear p6
             try clear q1
             try clear q15
             try clear q156
             try clear q157
             try clear q158
             try clear q2
             try clear q24
             obtain ⟨x40_3,x156000_3,u156000,rfl,HA,HK3,HO_156000,BK147,BK148,BK155,HB⟩:=hrel;cases gk with
             | zero=>exact absurd HA.out (by simp[spec_toAfter.l1])
             | succ k3 =>
              have H:=HA.out;clear HA;simp only[spec_toAfter.l1] at H;by_cases c32:x40_3 < ((rd_L2 l1 x19_1).length:Int)
              ·
               rw[if_pos c32] at H;have c32b0:decide (x40_3 < ((rd_L2 l1 x19_1).length:Int))=true:=dt' c32;clear c32;by_cases c33:0≤x40_3
               ·
                rw[if_pos c33] at H;have c33b0:decide (0≤x40_3)=true:=dt' c33;clear c33;by_cases c34:x40_3 < ((rd_L2 l1 x19_1).length:Int)
                ·
                 rw[if_pos c34] at H;have c34b0:decide (x40_3 < ((rd_L2 l1 x19_1).length:Int))=true:=dt' c34;clear c34;by_cases c35:0≤(rd (rd_L2 l1 x19_1) x40_3)
                 ·
                  rw[if_pos c35] at H;have c35b0:decide (0≤(rd (rd_L2 l1 x19_1) x40_3))=true:=dt' c35;clear c35;by_cases c36:(rd (rd_L2 l1 x19_1) x40_3) < (l0_0.length:Int)
                  ·
                   rw[if_pos c36] at H;have c36b0:decide ((rd (rd_L2 l1 x19_1) x40_3) < (l0_0.length:Int))=true:=dt' c36;clear c36;by_cases c37:(rd (rd_L2 l1 x19_1) x40_3) < (x156000_3.length:Int)
                   ·
                    rw[if_pos c37] at H;have c37b0:decide ((rd (rd_L2 l1 x19_1) x40_3) < (x156000_3.length:Int))=true:=dt' c37;clear c37;obtain ⟨y161,hy161⟩:∃ y_:List Bool,y_=(x156000_3.set ((rd (rd_L2 l1 x19_1) x40_3):Int).toNat (!(rdOf false l0_0 (rd (rd_L2 l1 x19_1) x40_3)))):=⟨_,rfl⟩
                    replace H:(spec_toAfter.l1 k3 l1 (l1.length:Int) x19_1 (rd_L2 l1 x19_1) ((rd_L2 l1 x19_1).length:Int) (wrap64 (x40_3+1)) l0_0 a0_1 y161 x156001_21)=some (r1,r2):=by first|(rw[hy161];with_reducible exact H)|(have H2_:=(Option.bind_some _ _).symm.trans H;rw[hy161];with_reducible exact H2_)|(have H2_:=(Option.bind_some _ _).symm.trans H;with_reducible exact H2_)|with_reducible exact H|(rw[hy161];exact H)|exact H
                    have Ny161:=am' hy161;clear hy161;have H':=am' H;clear H;have p159:0≤(x40_3:Int):=od' xa';have q159:x40_3 < ((rd_L2 l1 x19_1).length:Int):=od' xa';obtain ⟨ad159,e159,hx159_0⟩:=Kd.at_int HR156_0.out x40_3 p159 q159;obtain rfl:ad157=ad159:=(by injection e159)
                    replace hx159_0:=(HB.out.cell (bl' w _ hx159_0)).trans hx159_0;replace p159:=eq_true p159;replace q159:=eq_true q159
                    try go_wp2
                    have n0_:=am' (rw' HO_156000.out);have n1_:=am' (kd' BK147.out);have n2_:=am' (kd' BK148.out);have n3_:=am' (kd' BK155.out);have n4_:=am' (be' HB.out);clear HO_156000;clear BK147;clear BK148;clear BK155;clear HB;have HO_156000:=n0_;have BK147:=n1_;have BK148:=n2_;have BK155:=n3_;have HB:=n4_;clear n0_ n1_ n2_ n3_ n4_;have p160:0≤((rd (rd_L2 l1 x19_1) x40_3):Int):=od' xa';have q160:(rd (rd_L2 l1 x19_1) x40_3) < (l0_0.length:Int):=od' xa';obtain ⟨ad160,e160,hx160_0⟩:=Kd.at_bool HR0_0.out (rd (rd_L2 l1 x19_1) x40_3) p160 q160;have hw160_0:=hx160_0;obtain rfl:ad158=ad160:=(by injection e160)
                    replace hx160_0:=(HB.out.cell (bl' w _ hx160_0)).trans hx160_0;replace p160:=eq_true p160;replace q160:=eq_true q160;have p38:0≤((rd (rd_L2 l1 x19_1) x40_3):Int):=od' xa';have q38:((rd (rd_L2 l1 x19_1) x40_3):Int) < ((x156000_3.length:Int):Int):=od' xa';obtain ⟨go38,co38,eo38,gb38,gl38,cl38,HG38⟩:=Kd.R_form HO_156000.out (by omega)
                    (first|cases eo38|(injection eo38 with ea_ en_ ec_;(first|subst ea_|(injection ea_ with ea_;subst ea_));subst ec_;clear en_))
                    have GB38:=am' gb38;have GG38:=am' HG38;clear gb38 gl38 HG38;obtain ⟨hx38_0,hf38_0⟩:=Kd.R_celln false HO_156000.out ((rd (rd_L2 l1 x19_1) x40_3):Int) p38 q38;replace p38:=eq_true p38;replace q38:=eq_true q38;have HP40:=Kd.R_putn HO_156000.out ((rd (rd_L2 l1 x19_1) x40_3):Int) (!(rdOf false l0_0 (rd (rd_L2 l1 x19_1) x40_3)));rw[← Ny161.out] at HP40;have HQ40:=am' HP40;clear HP40;refine start_ (n:=11) (S:=fun w'=>w'.cell? ⟨gb155,0,none⟩=some (.slice (some ⟨go38,0,none⟩) x156000_3.length co38)∧w'.cell? ⟨gb155,1,none⟩=some (.int .i64 x156001_21)∧w'.cell? ⟨gb147,0,none⟩=some (.slice (some ad158) l0_0.length c0_0)∧w'.cell? ⟨gb147,1,none⟩=some (.int .i64 a0_1)∧w'.cell? (ad158.add ((rd (rd_L2 l1 x19_1) x40_3)).toNat)=some (.bool (rdOf false l0_0 (rd (rd_L2 l1 x19_1) x40_3)))) (ds:=[10]) #[false,false,false,false,false,false,false,false,false,false,false] xk' rfl rfl ⟨(bc' BK155.out 0).trans rfl,(bc' BK155.out 1).trans rfl,(bc' BK147.out 0).trans rfl,(bc' BK147.out 1).trans rfl,((HB.out.cell (bl' w _ hw160_0)).trans hw160_0)⟩ (fun hHeld=>?_);refine with_tabW spec_toAfter.tab11 spec_toAfter.bits11 (fun HT_ HW_=>?_);generalize wr.drew=w39 at HO_156000 BK147 BK148 BK155 HB GG38 HQ40 hf38_0 hx160_0 hx38_0 hHeld ⊢
                    refine pure_ (i:=0) (N:=some 44) (v:=?_) (a':=?_) #[true,false,false,false,false,false,false,false,false,false,false] rfl rfl (any_of HT_.out xk') (fun _ _ _ h=>h) (Or.inl ⟨by rfl,?_⟩) ?_ ?_
                    rotate_left
                    ·
                     intro w';go_simp;with_reducible rfl
                    rotate_left
                    ·
                     simp only[Act.put,sa',sb',sc',i64_w,i32_w];rfl
                    refine pure_ (i:=2) (N:=some 46) (v:=?_) (a':=?_) #[true,false,true,false,false,false,false,false,false,false,false] rfl rfl (any_of HT_.out xk') (fun _ _ _ h=>h) (Or.inl ⟨by rfl,?_⟩) ?_ ?_
                    rotate_left
                    ·
                     intro w';go_simp;with_reducible rfl
                    rotate_left
                    ·
                     simp only[Act.put,sa',sb',sc',i64_w,i32_w];rfl
                    refine pure_ (i:=3) (N:=some 47) (v:=?_) (a':=?_) #[true,false,true,true,false,false,false,false,false,false,false] rfl rfl (any_of HT_.out xk') (fun _ _ _ h=>h) (Or.inl ⟨by rfl,?_⟩) ?_ ?_
                    rotate_left
                    ·
                     intro w';go_simp;with_reducible rfl
                    rotate_left
                    ·
                     simp only[Act.put,sa',sb',sc',i64_w,i32_w];rfl
                    refine pure_ (i:=5) (N:=some 49) (v:=?_) (a':=?_) #[true,false,true,true,false,true,false,false,false,false,false] rfl rfl (any_of HT_.out xk') (fun _ _ _ h=>h) (Or.inl ⟨by rfl,?_⟩) ?_ ?_
                    rotate_left
                    ·
                     intro w';go_simp;with_reducible rfl
                    rotate_left
                    ·
                     simp only[Act.put,sa',sb',sc',i64_w,i32_w];rfl
                    refine take_ (i:=1) (N:=some 45) (v:=?_) (a':=?_) #[true,true,true,true,false,true,false,false,false,false,false] rfl rfl (take_ofW HT_.out HW_.out xk') (fun _ _ _ h=>h) (Or.inl ⟨by rfl,?_⟩) hHeld ?_ ?_
                    rotate_left
                    ·
                     rintro w' ⟨s0,s1,s2,s3,s4⟩
                     go_simp;with_reducible rfl
                    rotate_left
                    ·
                     simp only[Act.put,sa',sb',sc',i64_w,i32_w];rfl
                    refine take_ (i:=4) (N:=some 48) (v:=?_) (a':=?_) #[true,true,true,true,true,true,false,false,false,false,false] rfl rfl (take_ofW HT_.out HW_.out xk') (fun _ _ _ h=>h) (Or.inl ⟨by rfl,?_⟩) hHeld ?_ ?_
                    rotate_left
                    ·
                     rintro w' ⟨s0,s1,s2,s3,s4⟩
                     go_simp;with_reducible rfl
                    rotate_left
                    ·
                     simp only[Act.put,sa',sb',sc',i64_w,i32_w];rfl
                    refine pure_ (i:=6) (N:=some 50) (v:=?_) (a':=?_) #[true,true,true,true,true,true,true,false,false,false,false] rfl rfl (any_of HT_.out xk') (fun _ _ _ h=>h) (Or.inl ⟨by rfl,?_⟩) ?_ ?_
                    rotate_left
                    ·
                     intro w';go_simp;with_reducible rfl
                    rotate_left
                    ·
                     simp only[Act.put,sa',sb',sc',i64_w,i32_w];rfl
                    refine take_ (i:=7) (N:=some 51) (v:=?_) (a':=?_) #[true,true,true,true,true,true,true,true,false,false,false] rfl rfl (take_ofW HT_.out HW_.out xk') (fun _ _ _ h=>h) (Or.inl ⟨by rfl,?_⟩) hHeld ?_ ?_
                    rotate_left
                    ·
                     rintro w' ⟨s0,s1,s2,s3,s4⟩
                     go_simp;with_reducible rfl
                    rotate_left
                    ·
                     simp only[Act.put,sa',sb',sc',i64_w,i32_w];rfl
                    refine pure_ (i:=8) (N:=some 52) (v:=?_) (a':=?_) #[true,true,true,true,true,true,true,true,true,false,false] rfl rfl (any_of HT_.out xk') (fun _ _ _ h=>h) (Or.inl ⟨by rfl,?_⟩) ?_ ?_
                    rotate_left
                    ·
                     intro w';go_simp;with_reducible rfl
                    rotate_left
                    ·
                     simp only[Act.put,sa',sb',sc',i64_w,i32_w];rfl
                    refine pure_ (i:=9) (N:=some 53) (v:=?_) (a':=?_) #[true,true,true,true,true,true,true,true,true,true,false] rfl rfl (any_of HT_.out xk') (fun _ _ _ h=>h) (Or.inl ⟨by rfl,?_⟩) ?_ ?_
                    rotate_left
                    ·
                     intro w';go_simp;with_reducible rfl
                    rotate_left
                    ·
                     simp only[Act.put,sa',sb',sc',i64_w,i32_w];rfl
                    refine last_ (i:=10) (N:=none) #[true,true,true,true,true,true,true,true,true,true,true] rfl rfl (one_of HT_.out xk') (by decide) (fun K hK=>?_);refine skip_ (w1:=?_) (by rfl) rfl ?_ ?_
                    rotate_left
                    ·
                     go_simp;rfl
                    refine hK.out _ _ ?_
                    clear hK K;refine done_ (done_of HT_.out xk') ?_
                    try go_wp2
                    go_roundg k3
                    case measure=>have:=HK1.out;have:=HJ21.out;have:=HK3.out;omega
                    case rel=>exact ⟨(wrap64 (x40_3+1)),(y161),(.slice (some ⟨go38,0,none⟩) x156000_3.length co38),xs',H',⟨by have:=HK1.out;have:=HJ21.out;have:=HK3.out;omega⟩,⟨kr' HQ40.out⟩,⟨by (with_reducible repeat (first|refine kn' ?_ _|refine kd' ?_|refine ka' ?_ _));refine blk_far ?_ (by have h_:=Kd.R_ne HO_156000.out BK147.out (by decide);intro e_;exact h_ (by rw[e_];rfl)) _;(with_reducible repeat (first|refine kn' ?_ _|refine kd' ?_|refine ka' ?_ _));exact BK147.out⟩,⟨by (with_reducible repeat (first|refine kn' ?_ _|refine kd' ?_|refine ka' ?_ _));refine blk_far ?_ (by have h_:=Kd.R_ne HO_156000.out BK148.out (by decide);intro e_;exact h_ (by rw[e_];rfl)) _;(with_reducible repeat (first|refine kn' ?_ _|refine kd' ?_|refine ka' ?_ _));exact BK148.out⟩,⟨by (with_reducible repeat (first|refine kn' ?_ _|refine kd' ?_|refine ka' ?_ _));refine blk_far ?_ (by have h_:=Kd.R_ne HO_156000.out BK155.out (by decide);intro e_;exact h_ (by rw[e_];rfl)) _;(with_reducible repeat (first|refine kn' ?_ _|refine kd' ?_|refine ka' ?_ _));exact BK155.out⟩,⟨y4' GB38.out GE147.out GE148.out GE155.out⟩⟩
                   ·
                    rw[if_neg c37] at H;exact absurd H (by simp)
                  ·
                   rw[if_neg c36] at H;exact absurd H (by simp)
                 ·
                  rw[if_neg c35] at H;exact absurd H (by simp)
                ·
                 rw[if_neg c34] at H;exact absurd H (by simp)
               ·
                rw[if_neg c33] at H;exact absurd H (by simp)
              ·
               rw[if_neg c32] at H;have c32b0:decide (x40_3 < ((rd_L2 l1 x19_1).length:Int))=false:=df' c32;clear c32;have H':=am' H;clear H;go_wp2;go_roundg k3
               case measure=>have:=HK1.out;have:=HJ21.out;have:=HK3.out;omega
               case rel=>exact ⟨(wrap64 (x19_1+1)),(x156000_3),(x156001_21),(u156000),xs',H',⟨by have:=HK1.out;have:=HJ21.out;have:=HK3.out;omega⟩,⟨kr' HO_156000.out⟩,⟨kk' BK147.out⟩,⟨kk' BK148.out⟩,⟨kk' BK155.out⟩,⟨y3' GE147.out GE148.out GE155.out⟩⟩
         ·
          rw[if_neg c21] at H;exact absurd H (by simp)
        ·
         rw[if_neg c20] at H;exact absurd H (by simp)
       ·
        rw[if_neg c19] at H;exact absurd H (by simp)
      ·
       rw[if_neg c18] at H;exact absurd H (by simp)
     ·
      rw[if_neg c17] at H;exact absurd H (by simp)
    ·
     rw[if_neg c16] at H;have c16b0:decide (x19_1 < (l1.length:Int))=false:=df' c16;clear c16;simp only[Option.some.injEq,Prod.mk.injEq] at H;obtain ⟨rfl,rfl⟩:=H;have hnb41:=NB155_147.out;have hnc41:=NB147_155.out;have hnb42:=NB155_148.out;have hnc42:=NB148_155.out;have hcz43_0:wr.cell? ⟨gb155,0,none⟩=some (u156000):=(bc' BK155.out 0).trans rfl;have hcz43_1:wr.cell? ⟨gb155,1,none⟩=some (.int .i64 x156001_1):=(bc' BK155.out 1).trans rfl;have hfz43_0:=bf' BK155.out 0;have hfz43_1:=bf' BK155.out 1;obtain ⟨Ao44,co44,eo44⟩:=Kd.R_slice HO_156000.out;subst eo44;have hnb45:=NB148_147.out;have hnc45:=NB147_148.out;have hcz46_0:wr.cell? ⟨gb148,0,none⟩=some (.slice none 0 0):=(bc' BK148.out 0).trans rfl;have hcz46_1:wr.cell? ⟨gb148,1,none⟩=some (.int .i64 0):=(bc' BK148.out 1).trans rfl;have hfz46_0:=bf' BK148.out 0;have hfz46_1:=bf' BK148.out 1;go_wp2;refine bodyPost_ret (results_cell_row rfl _ _ gb148 32 #[.slice Ao44 x156000_1.length co44, .int .i64 x156001_1] (0,0) _ rfl (by (with_reducible repeat (first|refine kn' ?_ _|refine kd' ?_|refine ka' ?_ _));refine blk_put (cs:=#[.slice Ao44 x156000_1.length co44, .int .i64 0]) ?_ 1 _ rfl;(with_reducible repeat (first|refine kn' ?_ _|refine kd' ?_|refine ka' ?_ _));refine blk_put (cs:=#[.slice none 0 0, .int .i64 0]) ?_ 0 _ rfl;(with_reducible repeat (first|refine kn' ?_ _|refine kd' ?_|refine ka' ?_ _));exact BK148.out) Try.underlying32 rfl xk') rfl ?_
     exact ⟨_,by first|rfl|(simp[errW_none,errW_some] <;> rfl)|(simp[*,errW_none,errW_some] <;> rfl),by (with_reducible repeat (first|apply ra'|apply rn'|apply rw'));exact Kd.R_mono (Kd.R_far (p:=⟨gb148,1,none⟩) (Kd.R_far (p:=⟨gb148,0,none⟩) (Kd.R_types HO_156000.out BK148.out (by decide)) (fun _ hk=>hk.2) (.slice Ao44 x156000_1.length co44)) (fun _ hk=>hk.2) (.int .i64 x156001_1)) (fun _ hk=>trivial),y3' GE147.out GE148.out GE155.out⟩
 ·
  rw[if_neg c3] at H;exact absurd H (by simp)
end Go.Proofs.Ytdomojenlofieaa.C2
