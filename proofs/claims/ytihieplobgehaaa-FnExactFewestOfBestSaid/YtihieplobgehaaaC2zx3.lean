import Derived.Test.YtihieplobgehaaaC2zx0
import Derived.Test.YtihieplobgehaaaC2zAl
namespace Go.Proofs.Ytihieplobgehaaa.C2
open Go.RowKit Go.Proofs.YtihieplobgehaaaW.PrintWords Go.Proofs.YtihieplobgehaaaW.PrintLast Go.Proofs.YtihieplobgehaaaW.PrintMore Go.Proofs.Ytihieplobgehaaa.H
attribute [local go_sem] max2_int min2_int max_two min_two max_three min_three max_four min_four
set_option linter.unusedVariables false
set_option linter.unusedSimpArgs false
def spec_paCross.l0:Nat→List Int→Int→Int→List Bool→Bool→List Bool→Bool→Option (List Bool × Bool)
 | 0,_,_,_,_,_,_,_=>none
 | k+1,x16,x17,x18,x118000,x118001,x126000,x126001=>if x18 < x17 then (if 0≤x18 then (if x18 < (x16.length:Int) then (if 0≤(rd x16 x18) then (if (rd x16 x18) < (x118000.length:Int) then (if (rd x16 x18) < (x126000.length:Int) then (spec_paCross.l0 k x16 x17 (wrap64 (x18+1)) x118000 x118001 (x126000.set ((rd x16 x18):Int).toNat (!(rdOf false x118000 (rd x16 x18)))) x126001) else (none)) else (none)) else (none)) else (none)) else (none)) else (some (x126000,x126001))
def spec_paCross.f (k:Nat) (l0_0:List Bool) (a0_1:Bool) (l1:List Int):Option (List Bool × Bool):=(some (([]:List Bool):List Bool)).bind fun y119=>(if y119.length+l0_0.length < 140737488355328 then (spec_paCross.l0 k l1 (l1.length:Int) 0 l0_0 a0_1 (y119 ++ l0_0) (!a0_1)) else (none))
def spec_paCross.T1:Bool × List (List Nat × List Nat):=(true,[([],[]),([],[]),([1],[1]),([0,2],[0,2]),([],[]),([4],[4]),([5],[5]),([3,6],[3,6]),([],[]),([8,7,3,0,1,2,3,4,5,6,7,8],[7,8])])
def spec_paCross.B1:List Nat:=[0,0,2,7,0,16,48,127,0,511]
theorem spec_paCross.tab1:rtab .any (opsOf Try.f44 1)=spec_paCross.T1:=by kernel_rfl
theorem spec_paCross.bits1:waitsOk spec_paCross.T1.2 spec_paCross.B1=true:=by kernel_rfl
def spec_paCross.T5:Bool × List (List Nat × List Nat):=(true,[([],[]),([0],[0]),([],[]),([],[]),([3],[3]),([],[]),([4,5],[4,5]),([6],[6]),([7],[7]),([1,2,0,1,2,3,4,5,6,7,8],[1,2]),([9,8,0,1,2,3,4,5,6,7,8],[8,9])])
def spec_paCross.B5:List Nat:=[0,1,0,0,8,0,56,120,248,511,1023]
theorem spec_paCross.tab5:rtab .any (opsOf Try.f44 5)=spec_paCross.T5:=by kernel_rfl
theorem spec_paCross.bits5:waitsOk spec_paCross.T5.2 spec_paCross.B5=true:=by kernel_rfl
set_option maxHeartbeats 8000000 in
set_option maxRecDepth 100000 in
theorem spec_paCross.calls (k:Nat) (A0_0:Option Addr) (c0_0:Nat) (l0_0:List Bool) (a0_1:Bool) (A1:Option Addr) (c1:Nat) (l1:List Int) (r1:List Bool) (r2:Bool) (w:World) (hr0_0:Kd.C Kd.bool w A0_0 l0_0.length l0_0) (hc0_0:l0_0.length≤c0_0) (hr1:Kd.C (Kd.int .i64) w A1 l1.length l1) (hc1:l1.length≤c1) (h:spec_paCross.f k l0_0 a0_1 l1=some (r1,r2)) :
  Calls Try.prog 44 #[.agg #[.slice A0_0 l0_0.length c0_0, .bool a0_1], .slice A1 l1.length c1] w fun e w'=>∃ v0_:Value,e = .returned (.agg #[v0_, .bool r2])∧Kd.R Kd.bool 4 w' w.heap.size (fun _=>True) v0_ r1∧Below w.heap.size w w':=by
 have hu54:=Try.underlying54
 have HR0_0:=am' hr0_0
 have HC0_0:=am' hc0_0
 clear hr0_0 hc0_0;have HR1:=am' hr1
 have HC1:=am' hc1
 clear hr1 hc1;have HB:=am' (Below.refl w.heap.size w)
 have H:((some (([]:List Bool):List Bool)).bind fun y119=>(if y119.length+l0_0.length < 140737488355328 then (spec_paCross.l0 k l1 (l1.length:Int) 0 l0_0 a0_1 (y119 ++ l0_0) (!a0_1)) else (none)))=some (r1,r2):=h
 clear h;obtain ⟨y119,hy119⟩:∃ y_:List Bool,y_=(([]:List Bool)):=⟨_,rfl⟩
 replace H:(if y119.length+l0_0.length < 140737488355328 then (spec_paCross.l0 k l1 (l1.length:Int) 0 l0_0 a0_1 (y119 ++ l0_0) (!a0_1)) else (none))=some (r1,r2):=by first|(rw[hy119];with_reducible exact H)|(have H2_:=(Option.bind_some _ _).symm.trans H;rw[hy119];with_reducible exact H2_)|(have H2_:=(Option.bind_some _ _).symm.trans H;with_reducible exact H2_)|with_reducible exact H|(rw[hy119];exact H)|exact H
 have Ny119:=am' hy119
 clear hy119;by_cases c3:y119.length+l0_0.length < 140737488355328
 ·
  rw[if_pos c3] at H;have LMc3:=am' c3;clear c3;obtain ⟨y122,hy122⟩:∃ y_:List Bool,y_=(y119 ++ l0_0):=⟨_,rfl⟩
  replace H:(spec_paCross.l0 k l1 (l1.length:Int) 0 l0_0 a0_1 y122 (!a0_1))=some (r1,r2):=by first|(rw[hy122];with_reducible exact H)|(have H2_:=(Option.bind_some _ _).symm.trans H;rw[hy122];with_reducible exact H2_)|(have H2_:=(Option.bind_some _ _).symm.trans H;with_reducible exact H2_)|with_reducible exact H|(rw[hy122];exact H)|exact H
  have Ny122:=am' hy122;clear hy122;have H':=am' H;clear H;go_enter Try.func44,Try.ntmps44
  try go_wp2_with (first|((with_reducible refine gate_dst (N:=2) rfl ?_);refine box_event ?hg (N:=2) ?hd (cs:=#[.slice A0_0 l0_0.length c0_0, .bool a0_1]) (t:=54) ?hr ?_;(case hd=>rfl);(case hg=>rfl);(case hr=>first|(go_simp;done)|(go_simp;rfl));intro gb117 hg w4 hbox hb;have n0_:=am' (bt' xb' hb);have n1_:=am' (hbox);have n2_:=am' ((by rw[hg];exact (bz' xb'):w.heap.size≤gb117));have n3_:=am' ((by rw[hg];exact (bz' xb'):w.heap.size≤gb117));clear HB;have HB:=n0_;have BK117:=n1_;have GW117:=n2_;have GE117:=n3_;clear n0_ n1_ n2_ n3_;clear hb hbox hg)|((with_reducible refine gate_dst (N:=4) rfl ?_);refine box_event ?hg (N:=4) ?hd (cs:=#[.slice none 0 0, .bool false]) (t:=54) ?hr ?_;(case hd=>rfl);(case hg=>rfl);(case hr=>first|(go_simp;done)|(go_simp;rfl));intro gb118 hg w5 hbox hb;have n0_:=am' (bb' (g:=gb117) (o := .cells #[.slice A0_0 l0_0.length c0_0, .bool a0_1] 54 (0,0)) (kk' BK117.out) hb);have n1_:=am' (bt' (yb' GE117.out) hb);have n2_:=am' (hbox);have n3_:=am' ((by rw[hg];exact (bz' (yb' GE117.out)):w.heap.size≤gb118));have n4_:=am' ((by rw[hg];exact (bz' (yb' GE117.out)):w.heap.size≤gb118));have n5_:=am' ((by rw[hg];exact Nat.ne_of_lt (blk_lt (g:=gb117) (o := .cells #[.slice A0_0 l0_0.length c0_0, .bool a0_1] 54 (0,0)) (kk' BK117.out)):gb117≠gb118));have n6_:=am' ((by rw[hg];exact Nat.ne_of_gt (blk_lt (g:=gb117) (o := .cells #[.slice A0_0 l0_0.length c0_0, .bool a0_1] 54 (0,0)) (kk' BK117.out)):gb118≠gb117));clear BK117;clear HB;have BK117:=n0_;have HB:=n1_;have BK118:=n2_;have GW118:=n3_;have GE118:=n4_;have NB117_118:=n5_;have NB118_117:=n6_;clear n0_ n1_ n2_ n3_ n4_ n5_ n6_;clear hb hbox hg))
  have n0_:=am' (kd' BK117.out);have n1_:=am' (kd' BK118.out);have n2_:=am' (be' HB.out);clear BK117;clear BK118;clear HB;have BK117:=n0_;have BK118:=n1_;have HB:=n2_;clear n0_ n1_ n2_;refine start_ (n:=10) (S:=fun w'=>w'.cell? ⟨gb117,0,none⟩=some (.slice A0_0 l0_0.length c0_0)∧w'.cell? ⟨gb117,1,none⟩=some (.bool a0_1)) (ds:=[]) #[false,false,false,false,false,false,false,false,false,false] xk' rfl rfl ⟨(bc' BK117.out 0).trans rfl,(bc' BK117.out 1).trans rfl⟩ (fun hHeld=>?_);refine with_tabW spec_paCross.tab1 spec_paCross.bits1 (fun HT_ HW_=>?_);generalize w5.drew=w6 at BK117 BK118 HB hHeld ⊢
  refine pure_ (i:=1) (N:=some 9) (v:=?_) (a':=?_) #[false,true,false,false,false,false,false,false,false,false] rfl rfl (any_of HT_.out xk') (fun _ _ _ h=>h) (Or.inl ⟨by rfl,?_⟩) ?_ ?_
  rotate_left
  ·
   intro w';go_simp;with_reducible rfl
  rotate_left
  ·
   simp only[Act.put,sa',sb',sc',i64_w,i32_w];rfl
  refine pure_ (i:=4) (N:=some 12) (v:=?_) (a':=?_) #[false,true,false,false,true,false,false,false,false,false] rfl rfl (any_of HT_.out xk') (fun _ _ _ h=>h) (Or.inl ⟨by rfl,?_⟩) ?_ ?_
  rotate_left
  ·
   intro w';go_simp;with_reducible rfl
  rotate_left
  ·
   simp only[Act.put,sa',sb',sc',i64_w,i32_w];rfl
  refine take_ (i:=2) (N:=some 10) (v:=?_) (a':=?_) #[false,true,true,false,true,false,false,false,false,false] rfl rfl (take_ofW HT_.out HW_.out xk') (fun _ _ _ h=>h) (Or.inl ⟨by rfl,?_⟩) hHeld ?_ ?_
  rotate_left
  ·
   rintro w' ⟨s0,s1⟩
   go_simp;with_reducible rfl
  rotate_left
  ·
   simp only[Act.put,sa',sb',sc',i64_w,i32_w];rfl
  refine take_ (i:=5) (N:=some 13) (v:=?_) (a':=?_) #[false,true,true,false,true,true,false,false,false,false] rfl rfl (take_ofW HT_.out HW_.out xk') (fun _ _ _ h=>h) (Or.inl ⟨by rfl,?_⟩) hHeld ?_ ?_
  rotate_left
  ·
   rintro w' ⟨s0,s1⟩
   go_simp;with_reducible rfl
  rotate_left
  ·
   simp only[Act.put,sa',sb',sc',i64_w,i32_w];rfl
  refine pure_ (i:=6) (N:=some 14) (v:=?_) (a':=?_) #[false,true,true,false,true,true,true,false,false,false] rfl rfl (any_of HT_.out xk') (fun _ _ _ h=>h) (Or.inl ⟨by rfl,?_⟩) ?_ ?_
  rotate_left
  ·
   intro w';go_simp;with_reducible rfl
  rotate_left
  ·
   simp only[Act.put,sa',sb',sc',i64_w,i32_w];rfl
  refine join_ (σ:=Value × Value × Nat) 1 #[true,true,true,true,true,true,true,true,true,false] (fun s_=>[(8,s_.1),(11,s_.2.1),(5, .pointer (some ⟨s_.2.2,0,none⟩)),(15, .agg #[s_.2.1, .bool (!a0_1)])]) (fun s_ w'=>(w'.cell? ⟨gb117,0,none⟩=some (.slice A0_0 l0_0.length c0_0)∧w'.cell? ⟨gb117,1,none⟩=some (.bool a0_1))∧(Kd.R Kd.bool 4 w' w.heap.size (fun _=>True) s_.2.1 y122)∧(w'.heap[gb117]? = some (.cells #[.slice A0_0 l0_0.length c0_0, .bool a0_1] 54 (0,0)))∧(w'.heap[gb118]? = some (.cells #[.slice none 0 0, .bool false] 54 (0,0)))∧(w'.heap[s_.2.2]? = some (.cells #[.slice none 0 0, .bool false] 54 (0,0)))∧(w.heap.size≤s_.2.2)∧(w.heap.size≤s_.2.2)∧(gb117≠s_.2.2)∧(s_.2.2≠gb117)∧(gb118≠s_.2.2)∧(s_.2.2≠gb118)∧(Below w.heap.size w w')) ?_ ?_
  rotate_left
  ·
   intro hCont;refine two_ (i:=0) (j:=8) (Ni:=some 8) (Nj:=some 5) #[true,true,true,false,true,true,true,false,false,false] #[false,true,true,false,true,true,true,false,true,false] rfl rfl rfl rfl (two_of HT_.out xk') (by decide) (by decide) (fun K hK=>?_) (fun K hK=>?_)
   ·
    skip
    refine Kd.R_lit_step Kd.bool _ 4 ?hg (N:=8) ?hd (xs:=([]:List Bool)) (inner:=[]) (ok:=fun _=>True) (okp:=fun _=>True) ?hr ?hp (fun _ hk=>hk) trivial (Below.refl _ _) (Nat.le_refl _) (by simp) ?_;(case hd=>rfl);(case hg=>rfl);(case hr=>first|(go_simp;done)|(go_simp;rfl));(case hp=>exact (Reps.none _ _))
    intro v120 w7 ho8 hb hg_ hnew_;clear hg_ hnew_;(first|rw[← Ny119.out] at ho8|(simp only[Int.reduceToNat] at ho8;rw[← Ny119.out] at ho8))
    have n0_:=am' (Kd.R_lower ho8 (bz' (y2' GE117.out GE118.out)));have n1_:=am' (bb' (g:=gb117) (o := .cells #[.slice A0_0 l0_0.length c0_0, .bool a0_1] 54 (0,0)) (kk' BK117.out) hb);have n2_:=am' (bb' (g:=gb118) (o := .cells #[.slice none 0 0, .bool false] 54 (0,0)) (kk' BK118.out) hb);have n3_:=am' (bt' (y2' GE117.out GE118.out) hb);clear BK117;clear BK118;clear HB;have HO121:=n0_;have BK117:=n1_;have BK118:=n2_;have HB:=n3_;clear n0_ n1_ n2_ n3_;clear hb ho8;refine hK.out _ _ ⟨(bc' BK117.out 0).trans rfl,(bc' BK117.out 1).trans rfl⟩ (fun hHeld=>?_);clear hK K;refine norm_ (a':=?_) ?_ ?_
    rotate_left
    ·
     show Act.put _ (some 8) _=_
     simp only[Act.put,sa',sb',sc',i64_w,i32_w];rfl
    refine two_ (i:=3) (j:=8) (Ni:=some 11) (Nj:=some 5) #[true,true,true,true,true,true,true,false,false,false] #[true,true,true,false,true,true,true,false,true,false] rfl rfl rfl rfl (two_of HT_.out xk') (by decide) (by decide) (fun K hK=>?_) (fun K hK=>?_)
    ·
     skip
     refine Kd.R_append_rows_step Kd.bool (w0:=w) w.heap.size (by rfl) (.tmp 8) (.tmp 10) 52 4 (.bool false) 1 rfl Try.underlying52 info4 rfl (by decide) (by omega) v120 y119 l0_0 _ _ _ (fun _=>True) (fun _=>False) rfl rfl ?aO ?aR (fun _ _ h=>h) (fun _ h=>h.elim) ?aF ?aB ?aS ?aL ?_
     (case aR=>exact kc' (cb' HR0_0.out HB.out))
     (case aB=>exact (y2' GE117.out GE118.out))
     (case aF=>exact (fun _ _=>trivial))
     (case aO=>exact (kr' HO121.out))
     (case aS=>exact (bz' (y2' GE117.out GE118.out)))
     (case aL=>have:=LMc3.out;omega)
     intro v123 w9 ho hb hg hat;rw[← Ny122.out] at ho;have n0_:=am' (blk_grown (g:=gb117) (o := .cells #[.slice A0_0 l0_0.length c0_0, .bool a0_1] 54 (0,0)) (kk' BK117.out) hg (Kd.R_ne HO121.out BK117.out (by decide)));have n1_:=am' (blk_grown (g:=gb118) (o := .cells #[.slice none 0 0, .bool false] 54 (0,0)) (kk' BK118.out) hg (Kd.R_ne HO121.out BK118.out (by decide)));have n2_:=am' (hb);have n3_:=am' (ho);clear BK117;clear BK118;clear HB;clear HO121;have BK117:=n0_;have BK118:=n1_;have HB:=n2_;have HO124:=n3_;clear n0_ n1_ n2_ n3_;clear ho hb hg hat;obtain ⟨Ao10,co10,eo10⟩:=Kd.R_slice HO124.out
     (first|subst eo10|(injection eo10 with f1_ f2_ f3_;have f4_:=f1_.symm;have f5_:=f3_.symm;clear f1_ f2_ f3_;subst f4_;subst f5_))
     refine hK.out _ _ ⟨(bc' BK117.out 0).trans rfl,(bc' BK117.out 1).trans rfl⟩ (fun hHeld=>?_);clear hK K;refine norm_ (a':=?_) ?_ ?_
     rotate_left
     ·
      show Act.put _ (some 11) _=_
      simp only[Act.put,sa',sb',sc',i64_w,i32_w];rfl
     refine pure_ (i:=7) (N:=some 15) (v:=?_) (a':=?_) #[true,true,true,true,true,true,true,true,false,false] rfl rfl (any_of HT_.out xk') (fun _ _ _ h=>h) (Or.inl ⟨by rfl,?_⟩) ?_ ?_
     rotate_left
     ·
      intro w';go_simp;with_reducible rfl
     rotate_left
     ·
      simp only[Act.put,sa',sb',sc',i64_w,i32_w];rfl
     refine one_ (i:=8) (N:=some 5) #[true,true,true,true,true,true,true,true,true,false] rfl rfl (one_of HT_.out xk') (by decide) (fun K hK=>?_);refine box_step ?hg (N:=5) ?hd (cs:=#[.slice none 0 0, .bool false]) (t:=54) ?hr ?_;(case hd=>rfl);(case hg=>rfl);(case hr=>first|(go_simp;done)|(go_simp;rfl))
     intro gb125 hg w11 hbox hb;have n0_:=am' (rb' (kr' HO124.out) hb);have n1_:=am' (bb' (g:=gb117) (o := .cells #[.slice A0_0 l0_0.length c0_0, .bool a0_1] 54 (0,0)) (kk' BK117.out) hb);have n2_:=am' (bb' (g:=gb118) (o := .cells #[.slice none 0 0, .bool false] 54 (0,0)) (kk' BK118.out) hb);have n3_:=am' (bt' (y2' GE117.out GE118.out) hb);have n4_:=am' (hbox);have n5_:=am' ((by rw[hg];exact (bz' (y2' GE117.out GE118.out)):w.heap.size≤gb125));have n6_:=am' ((by rw[hg];exact (bz' (y2' GE117.out GE118.out)):w.heap.size≤gb125));have n7_:=am' ((by rw[hg];exact Nat.ne_of_lt (blk_lt (g:=gb117) (o := .cells #[.slice A0_0 l0_0.length c0_0, .bool a0_1] 54 (0,0)) (kk' BK117.out)):gb117≠gb125));have n8_:=am' ((by rw[hg];exact Nat.ne_of_gt (blk_lt (g:=gb117) (o := .cells #[.slice A0_0 l0_0.length c0_0, .bool a0_1] 54 (0,0)) (kk' BK117.out)):gb125≠gb117));have n9_:=am' ((by rw[hg];exact Nat.ne_of_lt (blk_lt (g:=gb118) (o := .cells #[.slice none 0 0, .bool false] 54 (0,0)) (kk' BK118.out)):gb118≠gb125));have n10_:=am' ((by rw[hg];exact Nat.ne_of_gt (blk_lt (g:=gb118) (o := .cells #[.slice none 0 0, .bool false] 54 (0,0)) (kk' BK118.out)):gb125≠gb118));clear HO124;clear BK117;clear BK118;clear HB;have HO124:=n0_;have BK117:=n1_;have BK118:=n2_;have HB:=n3_;have BK125:=n4_;have GW125:=n5_;have GE125:=n6_;have NB117_125:=n7_;have NB125_117:=n8_;have NB118_125:=n9_;have NB125_118:=n10_;clear n0_ n1_ n2_ n3_ n4_ n5_ n6_ n7_ n8_ n9_ n10_;clear hb hbox hg;refine hK.out _ _ ⟨(bc' BK117.out 0).trans rfl,(bc' BK117.out 1).trans rfl⟩ (fun hHeld=>?_);clear hK K;refine norm_ (a':=?_) ?_ ?_
     rotate_left
     ·
      show Act.put _ (some 5) _=_
      simp only[Act.put,sa',sb',sc',i64_w,i32_w];rfl
     exact norm_ (by simp only[putAll,Act.put,sa',sb',sc']) (hCont (v120, .slice Ao10 y122.length co10,gb125) _ ⟨hHeld,(kr' HO124.out),(kk' BK117.out),(kk' BK118.out),(kk' BK125.out),GW125.out,GE125.out,NB117_125.out,NB125_117.out,NB118_125.out,NB125_118.out,(y3' GE117.out GE118.out GE125.out)⟩)
    ·
     skip
     refine box_step ?hg (N:=5) ?hd (cs:=#[.slice none 0 0, .bool false]) (t:=54) ?hr ?_;(case hd=>rfl);(case hg=>rfl);(case hr=>first|(go_simp;done)|(go_simp;rfl))
     intro gb125 hg w9 hbox hb;have n0_:=am' (rb' (kr' HO121.out) hb);have n1_:=am' (bb' (g:=gb117) (o := .cells #[.slice A0_0 l0_0.length c0_0, .bool a0_1] 54 (0,0)) (kk' BK117.out) hb);have n2_:=am' (bb' (g:=gb118) (o := .cells #[.slice none 0 0, .bool false] 54 (0,0)) (kk' BK118.out) hb);have n3_:=am' (bt' (y2' GE117.out GE118.out) hb);have n4_:=am' (hbox);have n5_:=am' ((by rw[hg];exact (bz' (y2' GE117.out GE118.out)):w.heap.size≤gb125));have n6_:=am' ((by rw[hg];exact (bz' (y2' GE117.out GE118.out)):w.heap.size≤gb125));have n7_:=am' ((by rw[hg];exact Nat.ne_of_lt (blk_lt (g:=gb117) (o := .cells #[.slice A0_0 l0_0.length c0_0, .bool a0_1] 54 (0,0)) (kk' BK117.out)):gb117≠gb125));have n8_:=am' ((by rw[hg];exact Nat.ne_of_gt (blk_lt (g:=gb117) (o := .cells #[.slice A0_0 l0_0.length c0_0, .bool a0_1] 54 (0,0)) (kk' BK117.out)):gb125≠gb117));have n9_:=am' ((by rw[hg];exact Nat.ne_of_lt (blk_lt (g:=gb118) (o := .cells #[.slice none 0 0, .bool false] 54 (0,0)) (kk' BK118.out)):gb118≠gb125));have n10_:=am' ((by rw[hg];exact Nat.ne_of_gt (blk_lt (g:=gb118) (o := .cells #[.slice none 0 0, .bool false] 54 (0,0)) (kk' BK118.out)):gb125≠gb118));clear HO121;clear BK117;clear BK118;clear HB;have HO121:=n0_;have BK117:=n1_;have BK118:=n2_;have HB:=n3_;have BK125:=n4_;have GW125:=n5_;have GE125:=n6_;have NB117_125:=n7_;have NB125_117:=n8_;have NB118_125:=n9_;have NB125_118:=n10_;clear n0_ n1_ n2_ n3_ n4_ n5_ n6_ n7_ n8_ n9_ n10_;clear hb hbox hg;refine hK.out _ _ ⟨(bc' BK117.out 0).trans rfl,(bc' BK117.out 1).trans rfl⟩ (fun hHeld=>?_);clear hK K;refine norm_ (a':=?_) ?_ ?_
     rotate_left
     ·
      show Act.put _ (some 5) _=_
      simp only[Act.put,sa',sb',sc',i64_w,i32_w];rfl
     refine one_ (i:=3) (N:=some 11) #[true,true,true,true,true,true,true,false,true,false] rfl rfl (one_of HT_.out xk') (by decide) (fun K hK=>?_);refine Kd.R_append_rows_step Kd.bool (w0:=w) w.heap.size (by rfl) (.tmp 8) (.tmp 10) 52 4 (.bool false) 1 rfl Try.underlying52 info4 rfl (by decide) (by omega) v120 y119 l0_0 _ _ _ (fun _=>True) (fun _=>False) rfl rfl ?aO ?aR (fun _ _ h=>h) (fun _ h=>h.elim) ?aF ?aB ?aS ?aL ?_
     (case aR=>exact kc' (cb' HR0_0.out HB.out))
     (case aB=>exact (y3' GE117.out GE118.out GE125.out))
     (case aF=>exact (fun _ _=>trivial))
     (case aO=>exact (kr' HO121.out))
     (case aS=>exact (bz' (y3' GE117.out GE118.out GE125.out)))
     (case aL=>have:=LMc3.out;omega)
     intro v123 w10 ho hb hg hat;rw[← Ny122.out] at ho;have n0_:=am' (blk_grown (g:=gb117) (o := .cells #[.slice A0_0 l0_0.length c0_0, .bool a0_1] 54 (0,0)) (kk' BK117.out) hg (Kd.R_ne HO121.out BK117.out (by decide)));have n1_:=am' (blk_grown (g:=gb118) (o := .cells #[.slice none 0 0, .bool false] 54 (0,0)) (kk' BK118.out) hg (Kd.R_ne HO121.out BK118.out (by decide)));have n2_:=am' (blk_grown (g:=gb125) (o := .cells #[.slice none 0 0, .bool false] 54 (0,0)) (kk' BK125.out) hg (Kd.R_ne HO121.out BK125.out (by decide)));have n3_:=am' (hb);have n4_:=am' (ho);clear BK117;clear BK118;clear BK125;clear HB;clear HO121;have BK117:=n0_;have BK118:=n1_;have BK125:=n2_;have HB:=n3_;have HO124:=n4_;clear n0_ n1_ n2_ n3_ n4_;clear ho hb hg hat;obtain ⟨Ao11,co11,eo11⟩:=Kd.R_slice HO124.out
     (first|subst eo11|(injection eo11 with f1_ f2_ f3_;have f4_:=f1_.symm;have f5_:=f3_.symm;clear f1_ f2_ f3_;subst f4_;subst f5_))
     refine hK.out _ _ ⟨(bc' BK117.out 0).trans rfl,(bc' BK117.out 1).trans rfl⟩ (fun hHeld=>?_);clear hK K;refine norm_ (a':=?_) ?_ ?_
     rotate_left
     ·
      show Act.put _ (some 11) _=_
      simp only[Act.put,sa',sb',sc',i64_w,i32_w];rfl
     refine pure_ (i:=7) (N:=some 15) (v:=?_) (a':=?_) #[true,true,true,true,true,true,true,true,true,false] rfl rfl (any_of HT_.out xk') (fun _ _ _ h=>h) (Or.inl ⟨by rfl,?_⟩) ?_ ?_
     rotate_left
     ·
      intro w';go_simp;with_reducible rfl
     rotate_left
     ·
      simp only[Act.put,sa',sb',sc',i64_w,i32_w];rfl
     exact norm_ (by simp only[putAll,Act.put,sa',sb',sc']) (hCont (v120, .slice Ao11 y122.length co11,gb125) _ ⟨hHeld,(kr' HO124.out),(kk' BK117.out),(kk' BK118.out),(kk' BK125.out),GW125.out,GE125.out,NB117_125.out,NB125_117.out,NB118_125.out,NB125_118.out,(y3' GE117.out GE118.out GE125.out)⟩)
   ·
    skip
    refine box_step ?hg (N:=5) ?hd (cs:=#[.slice none 0 0, .bool false]) (t:=54) ?hr ?_;(case hd=>rfl);(case hg=>rfl);(case hr=>first|(go_simp;done)|(go_simp;rfl))
    intro gb125 hg w7 hbox hb;have n0_:=am' (bb' (g:=gb117) (o := .cells #[.slice A0_0 l0_0.length c0_0, .bool a0_1] 54 (0,0)) (kk' BK117.out) hb);have n1_:=am' (bb' (g:=gb118) (o := .cells #[.slice none 0 0, .bool false] 54 (0,0)) (kk' BK118.out) hb);have n2_:=am' (bt' (y2' GE117.out GE118.out) hb);have n3_:=am' (hbox);have n4_:=am' ((by rw[hg];exact (bz' (y2' GE117.out GE118.out)):w.heap.size≤gb125));have n5_:=am' ((by rw[hg];exact (bz' (y2' GE117.out GE118.out)):w.heap.size≤gb125));have n6_:=am' ((by rw[hg];exact Nat.ne_of_lt (blk_lt (g:=gb117) (o := .cells #[.slice A0_0 l0_0.length c0_0, .bool a0_1] 54 (0,0)) (kk' BK117.out)):gb117≠gb125));have n7_:=am' ((by rw[hg];exact Nat.ne_of_gt (blk_lt (g:=gb117) (o := .cells #[.slice A0_0 l0_0.length c0_0, .bool a0_1] 54 (0,0)) (kk' BK117.out)):gb125≠gb117));have n8_:=am' ((by rw[hg];exact Nat.ne_of_lt (blk_lt (g:=gb118) (o := .cells #[.slice none 0 0, .bool false] 54 (0,0)) (kk' BK118.out)):gb118≠gb125));have n9_:=am' ((by rw[hg];exact Nat.ne_of_gt (blk_lt (g:=gb118) (o := .cells #[.slice none 0 0, .bool false] 54 (0,0)) (kk' BK118.out)):gb125≠gb118));clear BK117;clear BK118;clear HB;have BK117:=n0_;have BK118:=n1_;have HB:=n2_;have BK125:=n3_;have GW125:=n4_;have GE125:=n5_;have NB117_125:=n6_;have NB125_117:=n7_;have NB118_125:=n8_;have NB125_118:=n9_;clear n0_ n1_ n2_ n3_ n4_ n5_ n6_ n7_ n8_ n9_;clear hb hbox hg;refine hK.out _ _ ⟨(bc' BK117.out 0).trans rfl,(bc' BK117.out 1).trans rfl⟩ (fun hHeld=>?_);clear hK K;refine norm_ (a':=?_) ?_ ?_
    rotate_left
    ·
     show Act.put _ (some 5) _=_
     simp only[Act.put,sa',sb',sc',i64_w,i32_w];rfl
    refine one_ (i:=0) (N:=some 8) #[true,true,true,false,true,true,true,false,true,false] rfl rfl (one_of HT_.out xk') (by decide) (fun K hK=>?_);refine Kd.R_lit_step Kd.bool _ 4 ?hg (N:=8) ?hd (xs:=([]:List Bool)) (inner:=[]) (ok:=fun _=>True) (okp:=fun _=>True) ?hr ?hp (fun _ hk=>hk) trivial (Below.refl _ _) (Nat.le_refl _) (by simp) ?_;(case hd=>rfl);(case hg=>rfl);(case hr=>first|(go_simp;done)|(go_simp;rfl));(case hp=>exact (Reps.none _ _))
    intro v120 w8 ho9 hb hg_ hnew_;clear hg_ hnew_;(first|rw[← Ny119.out] at ho9|(simp only[Int.reduceToNat] at ho9;rw[← Ny119.out] at ho9))
    have n0_:=am' (Kd.R_lower ho9 (bz' (y3' GE117.out GE118.out GE125.out)));have n1_:=am' (bb' (g:=gb117) (o := .cells #[.slice A0_0 l0_0.length c0_0, .bool a0_1] 54 (0,0)) (kk' BK117.out) hb);have n2_:=am' (bb' (g:=gb118) (o := .cells #[.slice none 0 0, .bool false] 54 (0,0)) (kk' BK118.out) hb);have n3_:=am' (bb' (g:=gb125) (o := .cells #[.slice none 0 0, .bool false] 54 (0,0)) (kk' BK125.out) hb);have n4_:=am' (bt' (y3' GE117.out GE118.out GE125.out) hb);clear BK117;clear BK118;clear BK125;clear HB;have HO121:=n0_;have BK117:=n1_;have BK118:=n2_;have BK125:=n3_;have HB:=n4_;clear n0_ n1_ n2_ n3_ n4_;clear hb ho9;refine hK.out _ _ ⟨(bc' BK117.out 0).trans rfl,(bc' BK117.out 1).trans rfl⟩ (fun hHeld=>?_);clear hK K;refine norm_ (a':=?_) ?_ ?_
    rotate_left
    ·
     show Act.put _ (some 8) _=_
     simp only[Act.put,sa',sb',sc',i64_w,i32_w];rfl
    refine one_ (i:=3) (N:=some 11) #[true,true,true,true,true,true,true,false,true,false] rfl rfl (one_of HT_.out xk') (by decide) (fun K hK=>?_);refine Kd.R_append_rows_step Kd.bool (w0:=w) w.heap.size (by rfl) (.tmp 8) (.tmp 10) 52 4 (.bool false) 1 rfl Try.underlying52 info4 rfl (by decide) (by omega) v120 y119 l0_0 _ _ _ (fun _=>True) (fun _=>False) rfl rfl ?aO ?aR (fun _ _ h=>h) (fun _ h=>h.elim) ?aF ?aB ?aS ?aL ?_
    (case aR=>exact kc' (cb' HR0_0.out HB.out))
    (case aB=>exact (y3' GE117.out GE118.out GE125.out))
    (case aF=>exact (fun _ _=>trivial))
    (case aO=>exact (kr' HO121.out))
    (case aS=>exact (bz' (y3' GE117.out GE118.out GE125.out)))
    (case aL=>have:=LMc3.out;omega)
    intro v123 w10 ho hb hg hat;rw[← Ny122.out] at ho;have n0_:=am' (blk_grown (g:=gb117) (o := .cells #[.slice A0_0 l0_0.length c0_0, .bool a0_1] 54 (0,0)) (kk' BK117.out) hg (Kd.R_ne HO121.out BK117.out (by decide)));have n1_:=am' (blk_grown (g:=gb118) (o := .cells #[.slice none 0 0, .bool false] 54 (0,0)) (kk' BK118.out) hg (Kd.R_ne HO121.out BK118.out (by decide)));have n2_:=am' (blk_grown (g:=gb125) (o := .cells #[.slice none 0 0, .bool false] 54 (0,0)) (kk' BK125.out) hg (Kd.R_ne HO121.out BK125.out (by decide)));have n3_:=am' (hb);have n4_:=am' (ho);clear BK117;clear BK118;clear BK125;clear HB;clear HO121;have BK117:=n0_;have BK118:=n1_;have BK125:=n2_;have HB:=n3_;have HO124:=n4_;clear n0_ n1_ n2_ n3_ n4_;clear ho hb hg hat;obtain ⟨Ao11,co11,eo11⟩:=Kd.R_slice HO124.out
    (first|subst eo11|(injection eo11 with f1_ f2_ f3_;have f4_:=f1_.symm;have f5_:=f3_.symm;clear f1_ f2_ f3_;subst f4_;subst f5_))
    refine hK.out _ _ ⟨(bc' BK117.out 0).trans rfl,(bc' BK117.out 1).trans rfl⟩ (fun hHeld=>?_);clear hK K;refine norm_ (a':=?_) ?_ ?_
    rotate_left
    ·
     show Act.put _ (some 11) _=_
     simp only[Act.put,sa',sb',sc',i64_w,i32_w];rfl
    refine pure_ (i:=7) (N:=some 15) (v:=?_) (a':=?_) #[true,true,true,true,true,true,true,true,true,false] rfl rfl (any_of HT_.out xk') (fun _ _ _ h=>h) (Or.inl ⟨by rfl,?_⟩) ?_ ?_
    rotate_left
    ·
     intro w';go_simp;with_reducible rfl
    rotate_left
    ·
     simp only[Act.put,sa',sb',sc',i64_w,i32_w];rfl
    exact norm_ (by simp only[putAll,Act.put,sa',sb',sc']) (hCont (v120, .slice Ao11 y122.length co11,gb125) _ ⟨hHeld,(kr' HO124.out),(kk' BK117.out),(kk' BK118.out),(kk' BK125.out),GW125.out,GE125.out,NB117_125.out,NB125_117.out,NB118_125.out,NB125_118.out,(y3' GE117.out GE118.out GE125.out)⟩)
  rintro ⟨v120,v123,gb125⟩ w12 ⟨hS_,h0_,h1_,h2_,h3_,h4_,h5_,h6_,h7_,h8_,h9_,h10_⟩
  have n0_:Aside0 (Kd.R Kd.bool 4 w12 w.heap.size (fun _=>True) v123 y122):=⟨h0_⟩
  have n1_:Aside0 (w12.heap[gb117]? = some (.cells #[.slice A0_0 l0_0.length c0_0, .bool a0_1] 54 (0,0))):=⟨h1_⟩
  have n2_:Aside0 (w12.heap[gb118]? = some (.cells #[.slice none 0 0, .bool false] 54 (0,0))):=⟨h2_⟩
  have n3_:Aside0 (w12.heap[gb125]? = some (.cells #[.slice none 0 0, .bool false] 54 (0,0))):=⟨h3_⟩
  have n4_:Aside0 (w.heap.size≤gb125):=⟨h4_⟩
  have n5_:Aside0 (w.heap.size≤gb125):=⟨h5_⟩
  have n6_:Aside0 (gb117≠gb125):=⟨h6_⟩
  have n7_:Aside0 (gb125≠gb117):=⟨h7_⟩
  have n8_:Aside0 (gb118≠gb125):=⟨h8_⟩
  have n9_:Aside0 (gb125≠gb118):=⟨h9_⟩
  have n10_:Aside0 (Below w.heap.size w w12):=⟨h10_⟩
  clear BK117;clear BK118;clear HB;clear h0_ h1_ h2_ h3_ h4_ h5_ h6_ h7_ h8_ h9_ h10_;have HO124:=n0_;have BK117:=n1_;have BK118:=n2_;have BK125:=n3_;have GW125:=n4_;have GE125:=n5_;have NB117_125:=n6_;have NB125_117:=n7_;have NB118_125:=n8_;have NB125_118:=n9_;have HB:=n10_;clear n0_ n1_ n2_ n3_ n4_ n5_ n6_ n7_ n8_ n9_ n10_;have hHeld:w12.cell? ⟨gb117,0,none⟩=some (.slice A0_0 l0_0.length c0_0)∧w12.cell? ⟨gb117,1,none⟩=some (.bool a0_1):=hS_;obtain ⟨Ao13,co13,eo13⟩:=Kd.R_slice HO124.out
  (first|subst eo13|(injection eo13 with f1_ f2_ f3_;have f4_:=f1_.symm;have f5_:=f3_.symm;clear f1_ f2_ f3_;subst f4_;subst f5_))
  refine norm_ (a':=?_) ?_ ?_
  rotate_left
  ·
   simp only[putAll,Act.put,sa',sb',sc'];rfl
  refine one_ (i:=9) (N:=none) #[true,true,true,true,true,true,true,true,true,true] rfl rfl (one_of HT_.out xk') (by decide) (fun K hK=>?_);have hs14:w12.cell? ⟨gb125,0,none⟩=some (.slice none 0 0):=(bc' BK125.out 0).trans rfl;have hfs14:=bf' BK125.out 0;have hns14_0:=NB117_125.out;have hns14_1:=NB118_125.out;have hms14_0:=NB125_117.out;have hms14_1:=NB125_118.out;have hs15:w12.cell? ⟨gb125,1,none⟩=some (.bool false):=(bc' BK125.out 1).trans rfl;have hfs15:=bf' BK125.out 1;have hns15_0:=NB117_125.out;have hns15_1:=NB118_125.out;have hms15_0:=NB125_117.out;have hms15_1:=NB125_118.out;refine skip_ (w1:=?_) (by rfl) rfl ?_ ?_
  rotate_left
  ·
   go_simp;rfl
  refine hK.out _ _ ⟨((cell_far (p:=⟨gb125,_,none⟩) NB117_125.out _).trans (((cell_far (p:=⟨gb125,_,none⟩) NB117_125.out _).trans (hHeld.1)))),((cell_far (p:=⟨gb125,_,none⟩) NB117_125.out _).trans (((cell_far (p:=⟨gb125,_,none⟩) NB117_125.out _).trans (hHeld.2))))⟩ (fun hHeld=>?_);clear hK K;refine done_ (done_of HT_.out xk') ?_
  try go_wp2
  go_loopg [18] k (fun kq v18 w'=>∃ (x18_1:Int) (x126000_1:List Bool) (u126000:Value),v18 = .int .i64 x18_1∧Aside0 (spec_paCross.l0 kq l1 (l1.length:Int) x18_1 l0_0 a0_1 x126000_1 (!a0_1)=some (r1,r2))∧Aside0 (kq≤k)∧Aside0 (Kd.R Kd.bool 4 w' w.heap.size (fun _=>True) u126000 x126000_1)∧Aside0 (w'.heap[gb117]? = some (.cells #[(.slice A0_0 l0_0.length c0_0), .bool a0_1] 54 (0,0)))∧Aside0 (w'.heap[gb118]? = some (.cells #[(.slice none 0 0), .bool false] 54 (0,0)))∧Aside0 (w'.heap[gb125]? = some (.cells #[u126000, .bool (!a0_1)] 54 (0,0)))∧Aside0 (Below w.heap.size w w'))
  case atStart=>exact ⟨(0),(y122),(.slice Ao13 y122.length co13),xs',H',⟨Nat.le_refl _⟩,⟨by (with_reducible repeat (first|apply ra'|apply rn'|apply rw'));exact Kd.R_mono (Kd.R_far (p:=⟨gb125,1,none⟩) (Kd.R_far (p:=⟨gb125,0,none⟩) (Kd.R_types HO124.out BK125.out (by decide)) (fun _ hk=>hk.2) (.slice Ao13 y122.length co13)) (fun _ hk=>hk.2) (.bool (!a0_1))) (fun _ hk=>trivial)⟩,⟨by (with_reducible repeat (first|refine kn' ?_ _|refine kd' ?_|refine ka' ?_ _));refine blk_far ?_ NB117_125.out _;(with_reducible repeat (first|refine kn' ?_ _|refine kd' ?_|refine ka' ?_ _));refine blk_far ?_ NB117_125.out _;(with_reducible repeat (first|refine kn' ?_ _|refine kd' ?_|refine ka' ?_ _));exact BK117.out⟩,⟨by (with_reducible repeat (first|refine kn' ?_ _|refine kd' ?_|refine ka' ?_ _));refine blk_far ?_ NB118_125.out _;(with_reducible repeat (first|refine kn' ?_ _|refine kd' ?_|refine ka' ?_ _));refine blk_far ?_ NB118_125.out _;(with_reducible repeat (first|refine kn' ?_ _|refine kd' ?_|refine ka' ?_ _));exact BK118.out⟩,⟨by (with_reducible repeat (first|refine kn' ?_ _|refine kd' ?_|refine ka' ?_ _));refine blk_put (cs:=#[.slice Ao13 y122.length co13, .bool false]) ?_ 1 _ rfl;(with_reducible repeat (first|refine kn' ?_ _|refine kd' ?_|refine ka' ?_ _));refine blk_put (cs:=#[.slice none 0 0, .bool false]) ?_ 0 _ rfl;(with_reducible repeat (first|refine kn' ?_ _|refine kd' ?_|refine ka' ?_ _));exact BK125.out⟩,⟨y3' GE117.out GE118.out GE125.out⟩⟩
  case round =>
   clear H';try clear c1
   try clear p2
   try clear c3
   try clear c4
   obtain ⟨x18_1,x126000_1,u126000,rfl,HA,HK1,HO_126000,BK117,BK118,BK125,HB⟩:=hrel;cases gk with
   | zero=>exact absurd HA.out (by simp[spec_paCross.l0])
   | succ k1 =>
    have H:=HA.out;clear HA;simp only[spec_paCross.l0] at H;by_cases c16:x18_1 < (l1.length:Int)
    ·
     rw[if_pos c16] at H;have c16b0:decide (x18_1 < (l1.length:Int))=true:=dt' c16;clear c16;by_cases c17:0≤x18_1
     ·
      rw[if_pos c17] at H;have c17b0:decide (0≤x18_1)=true:=dt' c17;clear c17;by_cases c18:x18_1 < (l1.length:Int)
      ·
       rw[if_pos c18] at H;have c18b0:decide (x18_1 < (l1.length:Int))=true:=dt' c18;clear c18;by_cases c19:0≤(rd l1 x18_1)
       ·
        rw[if_pos c19] at H;have c19b0:decide (0≤(rd l1 x18_1))=true:=dt' c19;clear c19;by_cases c20:(rd l1 x18_1) < (l0_0.length:Int)
        ·
         rw[if_pos c20] at H;have c20b0:decide ((rd l1 x18_1) < (l0_0.length:Int))=true:=dt' c20;clear c20;by_cases c21:(rd l1 x18_1) < (x126000_1.length:Int)
         ·
          rw[if_pos c21] at H;have c21b0:decide ((rd l1 x18_1) < (x126000_1.length:Int))=true:=dt' c21;clear c21;obtain ⟨y128,hy128⟩:∃ y_:List Bool,y_=(x126000_1.set ((rd l1 x18_1):Int).toNat (!(rdOf false l0_0 (rd l1 x18_1)))):=⟨_,rfl⟩
          replace H:(spec_paCross.l0 k1 l1 (l1.length:Int) (wrap64 (x18_1+1)) l0_0 a0_1 y128 (!a0_1))=some (r1,r2):=by first|(rw[hy128];with_reducible exact H)|(have H2_:=(Option.bind_some _ _).symm.trans H;rw[hy128];with_reducible exact H2_)|(have H2_:=(Option.bind_some _ _).symm.trans H;with_reducible exact H2_)|with_reducible exact H|(rw[hy128];exact H)|exact H
          have Ny128:=am' hy128;clear hy128;have H':=am' H;clear H;have p126:0≤(x18_1:Int):=od' xa';have q126:x18_1 < (l1.length:Int):=od' xa';obtain ⟨ad126,e126,hx126_0⟩:=Kd.at_int HR1.out x18_1 p126 q126;cases e126;replace hx126_0:=(HB.out.cell (bl' w _ hx126_0)).trans hx126_0;replace p126:=eq_true p126;replace q126:=eq_true q126
          try go_wp2
          have n0_:=am' (rw' HO_126000.out);have n1_:=am' (kd' BK117.out);have n2_:=am' (kd' BK118.out);have n3_:=am' (kd' BK125.out);have n4_:=am' (be' HB.out);clear HO_126000;clear BK117;clear BK118;clear BK125;clear HB;have HO_126000:=n0_;have BK117:=n1_;have BK118:=n2_;have BK125:=n3_;have HB:=n4_;clear n0_ n1_ n2_ n3_ n4_;have p127:0≤((rd l1 x18_1):Int):=od' xa';have q127:(rd l1 x18_1) < (l0_0.length:Int):=od' xa';obtain ⟨ad127,e127,hx127_0⟩:=Kd.at_bool HR0_0.out (rd l1 x18_1) p127 q127;have hw127_0:=hx127_0;cases e127;replace hx127_0:=(HB.out.cell (bl' w _ hx127_0)).trans hx127_0;replace p127:=eq_true p127;replace q127:=eq_true q127;have p22:0≤((rd l1 x18_1):Int):=od' xa';have q22:((rd l1 x18_1):Int) < ((x126000_1.length:Int):Int):=od' xa';obtain ⟨go22,co22,eo22,gb22,gl22,cl22,HG22⟩:=Kd.R_form HO_126000.out (by omega)
          (first|cases eo22|(injection eo22 with ea_ en_ ec_;(first|subst ea_|(injection ea_ with ea_;subst ea_));subst ec_;clear en_))
          have GB22:=am' gb22;have GG22:=am' HG22;clear gb22 gl22 HG22;obtain ⟨hx22_0,hf22_0⟩:=Kd.R_celln false HO_126000.out ((rd l1 x18_1):Int) p22 q22;replace p22:=eq_true p22;replace q22:=eq_true q22;have HP24:=Kd.R_putn HO_126000.out ((rd l1 x18_1):Int) (!(rdOf false l0_0 (rd l1 x18_1)));rw[← Ny128.out] at HP24;have HQ24:=am' HP24;clear HP24;refine start_ (n:=11) (S:=fun w'=>w'.cell? ⟨gb125,0,none⟩=some (.slice (some ⟨go22,0,none⟩) x126000_1.length co22)∧w'.cell? ⟨gb125,1,none⟩=some (.bool (!a0_1))∧w'.cell? ⟨gb117,0,none⟩=some (.slice (some ad127) l0_0.length c0_0)∧w'.cell? ⟨gb117,1,none⟩=some (.bool a0_1)∧w'.cell? (ad127.add ((rd l1 x18_1)).toNat)=some (.bool (rdOf false l0_0 (rd l1 x18_1)))) (ds:=[10]) #[false,false,false,false,false,false,false,false,false,false,false] xk' rfl rfl ⟨(bc' BK125.out 0).trans rfl,(bc' BK125.out 1).trans rfl,(bc' BK117.out 0).trans rfl,(bc' BK117.out 1).trans rfl,((HB.out.cell (bl' w _ hw127_0)).trans hw127_0)⟩ (fun hHeld=>?_);refine with_tabW spec_paCross.tab5 spec_paCross.bits5 (fun HT_ HW_=>?_);generalize wr.drew=w23 at HO_126000 BK117 BK118 BK125 HB GG22 HQ24 hf22_0 hx127_0 hx22_0 hHeld ⊢
          refine pure_ (i:=0) (N:=some 22) (v:=?_) (a':=?_) #[true,false,false,false,false,false,false,false,false,false,false] rfl rfl (any_of HT_.out xk') (fun _ _ _ h=>h) (Or.inl ⟨by rfl,?_⟩) ?_ ?_
          rotate_left
          ·
           intro w';go_simp;with_reducible rfl
          rotate_left
          ·
           simp only[Act.put,sa',sb',sc',i64_w,i32_w];rfl
          refine pure_ (i:=2) (N:=some 24) (v:=?_) (a':=?_) #[true,false,true,false,false,false,false,false,false,false,false] rfl rfl (any_of HT_.out xk') (fun _ _ _ h=>h) (Or.inl ⟨by rfl,?_⟩) ?_ ?_
          rotate_left
          ·
           intro w';go_simp;with_reducible rfl
          rotate_left
          ·
           simp only[Act.put,sa',sb',sc',i64_w,i32_w];rfl
          refine pure_ (i:=3) (N:=some 25) (v:=?_) (a':=?_) #[true,false,true,true,false,false,false,false,false,false,false] rfl rfl (any_of HT_.out xk') (fun _ _ _ h=>h) (Or.inl ⟨by rfl,?_⟩) ?_ ?_
          rotate_left
          ·
           intro w';go_simp;with_reducible rfl
          rotate_left
          ·
           simp only[Act.put,sa',sb',sc',i64_w,i32_w];rfl
          refine pure_ (i:=5) (N:=some 27) (v:=?_) (a':=?_) #[true,false,true,true,false,true,false,false,false,false,false] rfl rfl (any_of HT_.out xk') (fun _ _ _ h=>h) (Or.inl ⟨by rfl,?_⟩) ?_ ?_
          rotate_left
          ·
           intro w';go_simp;with_reducible rfl
          rotate_left
          ·
           simp only[Act.put,sa',sb',sc',i64_w,i32_w];rfl
          refine take_ (i:=1) (N:=some 23) (v:=?_) (a':=?_) #[true,true,true,true,false,true,false,false,false,false,false] rfl rfl (take_ofW HT_.out HW_.out xk') (fun _ _ _ h=>h) (Or.inl ⟨by rfl,?_⟩) hHeld ?_ ?_
          rotate_left
          ·
           rintro w' ⟨s0,s1,s2,s3,s4⟩
           go_simp;with_reducible rfl
          rotate_left
          ·
           simp only[Act.put,sa',sb',sc',i64_w,i32_w];rfl
          refine take_ (i:=4) (N:=some 26) (v:=?_) (a':=?_) #[true,true,true,true,true,true,false,false,false,false,false] rfl rfl (take_ofW HT_.out HW_.out xk') (fun _ _ _ h=>h) (Or.inl ⟨by rfl,?_⟩) hHeld ?_ ?_
          rotate_left
          ·
           rintro w' ⟨s0,s1,s2,s3,s4⟩
           go_simp;with_reducible rfl
          rotate_left
          ·
           simp only[Act.put,sa',sb',sc',i64_w,i32_w];rfl
          refine pure_ (i:=6) (N:=some 28) (v:=?_) (a':=?_) #[true,true,true,true,true,true,true,false,false,false,false] rfl rfl (any_of HT_.out xk') (fun _ _ _ h=>h) (Or.inl ⟨by rfl,?_⟩) ?_ ?_
          rotate_left
          ·
           intro w';go_simp;with_reducible rfl
          rotate_left
          ·
           simp only[Act.put,sa',sb',sc',i64_w,i32_w];rfl
          refine take_ (i:=7) (N:=some 29) (v:=?_) (a':=?_) #[true,true,true,true,true,true,true,true,false,false,false] rfl rfl (take_ofW HT_.out HW_.out xk') (fun _ _ _ h=>h) (Or.inl ⟨by rfl,?_⟩) hHeld ?_ ?_
          rotate_left
          ·
           rintro w' ⟨s0,s1,s2,s3,s4⟩
           go_simp;with_reducible rfl
          rotate_left
          ·
           simp only[Act.put,sa',sb',sc',i64_w,i32_w];rfl
          refine pure_ (i:=8) (N:=some 30) (v:=?_) (a':=?_) #[true,true,true,true,true,true,true,true,true,false,false] rfl rfl (any_of HT_.out xk') (fun _ _ _ h=>h) (Or.inl ⟨by rfl,?_⟩) ?_ ?_
          rotate_left
          ·
           intro w';go_simp;with_reducible rfl
          rotate_left
          ·
           simp only[Act.put,sa',sb',sc',i64_w,i32_w];rfl
          refine pure_ (i:=9) (N:=some 31) (v:=?_) (a':=?_) #[true,true,true,true,true,true,true,true,true,true,false] rfl rfl (any_of HT_.out xk') (fun _ _ _ h=>h) (Or.inl ⟨by rfl,?_⟩) ?_ ?_
          rotate_left
          ·
           intro w';go_simp;with_reducible rfl
          rotate_left
          ·
           simp only[Act.put,sa',sb',sc',i64_w,i32_w];rfl
          refine last_ (i:=10) (N:=none) #[true,true,true,true,true,true,true,true,true,true,true] rfl rfl (one_of HT_.out xk') (by decide) (fun K hK=>?_);refine skip_ (w1:=?_) (by rfl) rfl ?_ ?_
          rotate_left
          ·
           go_simp;rfl
          refine hK.out _ _ ?_
          clear hK K;refine done_ (done_of HT_.out xk') ?_
          try go_wp2
          go_roundg k1
          case measure=>have:=HK1.out;omega
          case rel=>exact ⟨(wrap64 (x18_1+1)),(y128),(.slice (some ⟨go22,0,none⟩) x126000_1.length co22),xs',H',⟨by have:=HK1.out;omega⟩,⟨kr' HQ24.out⟩,⟨by (with_reducible repeat (first|refine kn' ?_ _|refine kd' ?_|refine ka' ?_ _));refine blk_far ?_ (by have h_:=Kd.R_ne HO_126000.out BK117.out (by decide);intro e_;exact h_ (by rw[e_];rfl)) _;(with_reducible repeat (first|refine kn' ?_ _|refine kd' ?_|refine ka' ?_ _));exact BK117.out⟩,⟨by (with_reducible repeat (first|refine kn' ?_ _|refine kd' ?_|refine ka' ?_ _));refine blk_far ?_ (by have h_:=Kd.R_ne HO_126000.out BK118.out (by decide);intro e_;exact h_ (by rw[e_];rfl)) _;(with_reducible repeat (first|refine kn' ?_ _|refine kd' ?_|refine ka' ?_ _));exact BK118.out⟩,⟨by (with_reducible repeat (first|refine kn' ?_ _|refine kd' ?_|refine ka' ?_ _));refine blk_far ?_ (by have h_:=Kd.R_ne HO_126000.out BK125.out (by decide);intro e_;exact h_ (by rw[e_];rfl)) _;(with_reducible repeat (first|refine kn' ?_ _|refine kd' ?_|refine ka' ?_ _));exact BK125.out⟩,⟨y4' GB22.out GE117.out GE118.out GE125.out⟩⟩
         ·
          rw[if_neg c21] at H;exact absurd H (by simp)
        ·
         rw[if_neg c20] at H;exact absurd H (by simp)
       ·
        rw[if_neg c19] at H;exact absurd H (by simp)
      ·
       rw[if_neg c18] at H;exact absurd H (by simp)
     ·
      rw[if_neg c17] at H;exact absurd H (by simp)
    ·
     rw[if_neg c16] at H;have c16b0:decide (x18_1 < (l1.length:Int))=false:=df' c16;clear c16;simp only[Option.some.injEq,Prod.mk.injEq] at H;obtain ⟨rfl,rfl⟩:=H;have hnb25:=NB125_117.out;have hnc25:=NB117_125.out;have hnb26:=NB125_118.out;have hnc26:=NB118_125.out;have hcz27_0:wr.cell? ⟨gb125,0,none⟩=some (u126000):=(bc' BK125.out 0).trans rfl;have hcz27_1:wr.cell? ⟨gb125,1,none⟩=some (.bool (!a0_1)):=(bc' BK125.out 1).trans rfl;have hfz27_0:=bf' BK125.out 0;have hfz27_1:=bf' BK125.out 1;obtain ⟨Ao28,co28,eo28⟩:=Kd.R_slice HO_126000.out;subst eo28;have hnb29:=NB118_117.out;have hnc29:=NB117_118.out;have hcz30_0:wr.cell? ⟨gb118,0,none⟩=some (.slice none 0 0):=(bc' BK118.out 0).trans rfl;have hcz30_1:wr.cell? ⟨gb118,1,none⟩=some (.bool false):=(bc' BK118.out 1).trans rfl;have hfz30_0:=bf' BK118.out 0;have hfz30_1:=bf' BK118.out 1;go_wp2;refine bodyPost_ret (results_cell_row rfl _ _ gb118 54 #[.slice Ao28 x126000_1.length co28, .bool (!a0_1)] (0,0) _ rfl (by (with_reducible repeat (first|refine kn' ?_ _|refine kd' ?_|refine ka' ?_ _));refine blk_put (cs:=#[.slice Ao28 x126000_1.length co28, .bool false]) ?_ 1 _ rfl;(with_reducible repeat (first|refine kn' ?_ _|refine kd' ?_|refine ka' ?_ _));refine blk_put (cs:=#[.slice none 0 0, .bool false]) ?_ 0 _ rfl;(with_reducible repeat (first|refine kn' ?_ _|refine kd' ?_|refine ka' ?_ _));exact BK118.out) Try.underlying54 rfl xk') rfl ?_
     exact ⟨_,by first|rfl|(simp[errW_none,errW_some] <;> rfl)|(simp[*,errW_none,errW_some] <;> rfl),by (with_reducible repeat (first|apply ra'|apply rn'|apply rw'));exact Kd.R_mono (Kd.R_far (p:=⟨gb118,1,none⟩) (Kd.R_far (p:=⟨gb118,0,none⟩) (Kd.R_types HO_126000.out BK118.out (by decide)) (fun _ hk=>hk.2) (.slice Ao28 x126000_1.length co28)) (fun _ hk=>hk.2) (.bool (!a0_1))) (fun _ hk=>trivial),y3' GE117.out GE118.out GE125.out⟩
 ·
  rw[if_neg c3] at H;exact absurd H (by simp)
def spec_l1Own.f (l0:List Int):Option (List Int):=(some (([]:List Int):List Int)).bind fun y129=>(if y129.length+l0.length < 17592186044416 then (some (y129 ++ l0)) else (none))
set_option maxHeartbeats 8000000 in
set_option maxRecDepth 100000 in
theorem spec_l1Own.calls (A0:Option Addr) (c0:Nat) (l0:List Int) (r:List Int) (w:World) (hr0:Kd.C (Kd.int .i64) w A0 l0.length l0) (hc0:l0.length≤c0) (h:spec_l1Own.f l0=some r) :
  Calls Try.prog 63 #[.slice A0 l0.length c0] w fun e w'=>∃ v0_:Value,e = .returned (v0_)∧Kd.R (Kd.int .i64) 3 w' w.heap.size (fun _=>True) v0_ r∧Below w.heap.size w w':=by
 have HR0:=am' hr0
 have HC0:=am' hc0
 clear hr0 hc0;have HB:=am' (Below.refl w.heap.size w)
 have H:((some (([]:List Int):List Int)).bind fun y129=>(if y129.length+l0.length < 17592186044416 then (some (y129 ++ l0)) else (none)))=some r:=h
 clear h;obtain ⟨y129,hy129⟩:∃ y_:List Int,y_=(([]:List Int)):=⟨_,rfl⟩
 replace H:(if y129.length+l0.length < 17592186044416 then (some (y129 ++ l0)) else (none))=some r:=by first|(rw[hy129];with_reducible exact H)|(have H2_:=(Option.bind_some _ _).symm.trans H;rw[hy129];with_reducible exact H2_)|(have H2_:=(Option.bind_some _ _).symm.trans H;with_reducible exact H2_)|with_reducible exact H|(rw[hy129];exact H)|exact H
 have Ny129:=am' hy129
 clear hy129;by_cases c2:y129.length+l0.length < 17592186044416
 ·
  rw[if_pos c2] at H;have LMc2:=am' c2;clear c2;obtain ⟨y132,hy132⟩:∃ y_:List Int,y_=(y129 ++ l0):=⟨_,rfl⟩
  replace H:(some y132)=some r:=by first|(rw[hy132];with_reducible exact H)|(have H2_:=(Option.bind_some _ _).symm.trans H;rw[hy132];with_reducible exact H2_)|(have H2_:=(Option.bind_some _ _).symm.trans H;with_reducible exact H2_)|with_reducible exact H|(rw[hy132];exact H)|exact H
  have Ny132:=am' hy132;clear hy132;obtain rfl:=os' H;go_enter Try.func63,Try.ntmps63;go_wp2_with (first|((with_reducible refine gate_dst (N:=3) rfl ?_);refine Kd.R_lit (Kd.int .i64) _ 3 ?hg (N:=3) ?hd (xs:=([]:List Int)) (inner:=[]) (ok:=fun _=>True) (okp:=fun _=>True) ?hr ?hp (fun _ hk=>hk) trivial (Below.refl _ _) (Nat.le_refl _) (by simp) ?_;(case hd=>rfl);(case hg=>rfl);(case hr=>first|(go_simp;done)|(go_simp;rfl));(case hp=>exact (Reps.none _ _));intro v130 w3 ho4 hb hg_ hnew_;clear hg_ hnew_;(first|rw[← Ny129.out] at ho4|(simp only[Int.reduceToNat] at ho4;rw[← Ny129.out] at ho4));have n0_:=am' (Kd.R_lower ho4 (bz' xb'));have n1_:=am' (bt' xb' hb);clear HB;have HO131:=n0_;have HB:=n1_;clear n0_ n1_;clear hb ho4)|((with_reducible refine gate_builtin (b := .append) (xs:=#[.tmp 3, .tmp 4]) rfl ?_);at_builtin;refine Kd.R_append_rows (Kd.int .i64) (w0:=w) w.heap.size rfl (.tmp 3) (.tmp 4) 22 3 (.int .i64 0) 8 rfl Try.underlying22 info3 rfl (by decide) (by omega) v130 y129 l0 _ _ _ (fun _=>True) (fun _=>False) rfl rfl ?aO ?aR (fun _ _ h=>h) (fun _ h=>h.elim) ?aF ?aB ?aS ?aL ?_;(case aR=>exact kc' (cb' HR0.out HB.out));(case aB=>exact xb');(case aF=>exact (fun _ _=>trivial));(case aO=>exact (kr' HO131.out));(case aS=>exact (bz' xb'));(case aL=>have:=LMc2.out;omega);intro v133 w5 ho hb hg hat;rw[← Ny132.out] at ho;have n0_:=am' (hb);have n1_:=am' (ho);clear HB;clear HO131;have HB:=n0_;have HO134:=n1_;clear n0_ n1_;clear ho hb hg hat));go_ret
  exact ⟨_,by first|rfl|(simp[errW_none,errW_some] <;> rfl)|(simp[*,errW_none,errW_some] <;> rfl),kr' HO134.out,xb'⟩
 ·
  rw[if_neg c2] at H;exact absurd H (by simp)
end Go.Proofs.Ytihieplobgehaaa.C2
