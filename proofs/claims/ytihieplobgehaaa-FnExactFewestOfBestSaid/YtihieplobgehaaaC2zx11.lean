import Derived.Test.YtihieplobgehaaaC2zx0
import Derived.Test.YtihieplobgehaaaC2zAl
namespace Go.Proofs.Ytihieplobgehaaa.C2
open Go.RowKit Go.Proofs.YtihieplobgehaaaW.PrintWords Go.Proofs.YtihieplobgehaaaW.PrintLast Go.Proofs.YtihieplobgehaaaW.PrintMore Go.Proofs.Ytihieplobgehaaa.H
attribute [local go_sem] max2_int min2_int max_two min_two max_three min_three max_four min_four
set_option linter.unusedVariables false
set_option linter.unusedSimpArgs false
def impl_stateOf.l0:Nat→Int→Int→Int→List Bool→Bool→Option (List Bool × Bool)
 | 0,_,_,_,_,_=>none
 | k+1,x1,x17,x18,x349000,x349001=>if x18 < x17 then (if 0≤x18 then (if x18 < (x349000.length:Int) then (impl_stateOf.l0 k x1 x17 (wrap64 (x18+1)) (x349000.set (x18:Int).toNat ((Go.bits .and .i64 (shr .i64 x1 x18) 1) == 1)) x349001) else (none)) else (none)) else (some (x349000,x349001))
def impl_stateOf.f (k:Nat) (a0:Int) (a1:Int):Option (List Bool × Bool):=if 0≤a0 then (if (a0:Int).toNat≤281474976710656 then ((some (List.replicate (a0:Int).toNat false:List Bool)).bind fun y345=>(impl_stateOf.l0 k a1 (y345.length:Int) 0 y345 ((Go.bits .and .i64 (shr .i64 a1 a0) 1) == 1))) else (none)) else (none)
theorem impl_stateOf.mono_l:∀ k,(∀ y0 y1 y2 y3 y4,LeO (impl_stateOf.l0 k y0 y1 y2 y3 y4) (impl_stateOf.l0 (k+1) y0 y1 y2 y3 y4))
 | 0=>fun _ _ _ _ _ r h=>by simp[impl_stateOf.l0] at h
 | k+1=>by
  have ih0:=impl_stateOf.mono_l k
  ·
   intro y0 y1 y2 y3 y4;unfold impl_stateOf.l0
   repeat' first
   | (with_reducible exact ih0 _ _ _ _ _)
   | (with_reducible exact LeO.refl _)
   | (with_reducible exact LeO.none _)
   | (with_reducible refine LeO.ite ?_ ?_)
   | (with_reducible refine LeO.bind ?_ (fun _=>?_))
   | exact ih0 _ _ _ _ _
   | exact LeO.none _
   | refine LeO.ite ?_ ?_
   | refine LeO.bind ?_ (fun _=>?_)
theorem impl_stateOf.mono:∀ a0 a1 k,LeO (impl_stateOf.f k a0 a1) (impl_stateOf.f (k+1) a0 a1):=by
 intro a0 a1 k;have ih0:=impl_stateOf.mono_l k
 unfold impl_stateOf.f
 repeat' first
   | (with_reducible exact ih0 _ _ _ _ _)
   | (with_reducible exact LeO.refl _)
   | (with_reducible exact LeO.none _)
   | (with_reducible refine LeO.ite ?_ ?_)
   | (with_reducible refine LeO.bind ?_ (fun _=>?_))
   | exact ih0 _ _ _ _ _
   | exact LeO.none _
   | refine LeO.ite ?_ ?_
   | refine LeO.bind ?_ (fun _=>?_)
def impl_stateOf.T1:Bool × List (List Nat × List Nat):=(true,[([],[]),([0,0],[0]),([],[]),([],[]),([2,3],[2,3]),([4],[4]),([5],[5]),([1,6],[1,6]),([],[]),([8,7,0,1,2,3,4,5,6,7,8],[7,8])])
def impl_stateOf.B1:List Nat:=[0,1,0,0,12,28,60,127,0,511]
theorem impl_stateOf.tab1:rtab .any (opsOf Try.f53 1)=impl_stateOf.T1:=by kernel_rfl
theorem impl_stateOf.bits1:waitsOk impl_stateOf.T1.2 impl_stateOf.B1=true:=by kernel_rfl
def impl_stateOf.T5:Bool × List (List Nat × List Nat):=(true,[([],[]),([0],[0]),([],[]),([],[]),([],[]),([3,4],[3,4]),([5],[5]),([6],[6]),([1,2,0,1,2,3,4,5,6,7],[1,2]),([8,7,0,1,2,3,4,5,6,7],[7,8])])
def impl_stateOf.B5:List Nat:=[0,1,0,0,0,24,56,120,255,511]
theorem impl_stateOf.tab5:rtab .any (opsOf Try.f53 5)=impl_stateOf.T5:=by kernel_rfl
theorem impl_stateOf.bits5:waitsOk impl_stateOf.T5.2 impl_stateOf.B5=true:=by kernel_rfl
set_option maxHeartbeats 8000000 in
set_option maxRecDepth 100000 in
theorem impl_stateOf.calls (k:Nat) (a0:Int) (a1:Int) (r1:List Bool) (r2:Bool) (w:World) (h:impl_stateOf.f k a0 a1=some (r1,r2)) :
  Calls Try.prog 53 #[.int .i64 a0, .int .i64 a1] w fun e w'=>∃ v0_:Value,e = .returned (.agg #[v0_, .bool r2])∧Kd.R Kd.bool 4 w' w.heap.size (fun _=>True) v0_ r1∧Below w.heap.size w w':=by
 have hu54:=Try.underlying54
 have HB:=am' (Below.refl w.heap.size w)
 have H:(if 0≤a0 then (if (a0:Int).toNat≤281474976710656 then ((some (List.replicate (a0:Int).toNat false:List Bool)).bind fun y345=>(impl_stateOf.l0 k a1 (y345.length:Int) 0 y345 ((Go.bits .and .i64 (shr .i64 a1 a0) 1) == 1))) else (none)) else (none))=some (r1,r2):=h
 clear h;by_cases c3:0≤a0
 ·
  rw[if_pos c3] at H;have c3b0:=eq_true c3;have c3b1:decide (0≤a0)=true:=dt' c3;clear c3;by_cases c4:(a0:Int).toNat≤281474976710656
  ·
   rw[if_pos c4] at H;have c4b0:=eq_true c4;have c4b1:decide ((a0:Int).toNat≤281474976710656)=true:=dt' c4;clear c4;obtain ⟨y345,hy345⟩:∃ y_:List Bool,y_=(List.replicate (a0:Int).toNat false):=⟨_,rfl⟩
   replace H:(impl_stateOf.l0 k a1 (y345.length:Int) 0 y345 ((Go.bits .and .i64 (shr .i64 a1 a0) 1) == 1))=some (r1,r2):=by first|(rw[hy345];with_reducible exact H)|(have H2_:=(Option.bind_some _ _).symm.trans H;rw[hy345];with_reducible exact H2_)|(have H2_:=(Option.bind_some _ _).symm.trans H;with_reducible exact H2_)|with_reducible exact H|(rw[hy345];exact H)|exact H
   have Ny345:=am' hy345;clear hy345;have c5b0:=eq_true (od' xa':0≤a0);obtain ⟨ji6,hji6⟩:∃ j_:Int,(shr .i64 a1 a0)=j_:=⟨_,rfl⟩
   replace H:(impl_stateOf.l0 k a1 (y345.length:Int) 0 y345 ((Go.bits .and .i64 (ji6) 1) == 1))=some (r1,r2):=by first|(rw[hji6] at H;exact H)|(simp only[hji6] at H ⊢;exact H)
   have hji6_:(a1 / 2 ^ min a0.toNat 64)=ji6:=hji6;have hji6z:a0≤64→(a1 / 2 ^ a0.toNat)=ji6:=shr_small hji6;have H':=am' H;clear H;go_enter Try.func53,Try.ntmps53
   try go_wp2_with (first|((with_reducible refine gate_dst (N:=4) rfl ?_);refine box_event ?hg (N:=4) ?hd (cs:=#[.slice none 0 0, .bool false]) (t:=54) ?hr ?_;(case hd=>rfl);(case hg=>rfl);(case hr=>first|(go_simp;done)|(go_simp;rfl));intro gb344 hg w7 hbox hb;have n0_:=am' (bt' xb' hb);have n1_:=am' (hbox);have n2_:=am' ((by rw[hg];exact (bz' xb'):w.heap.size≤gb344));have n3_:=am' ((by rw[hg];exact (bz' xb'):w.heap.size≤gb344));clear HB;have HB:=n0_;have BK344:=n1_;have GW344:=n2_;have GE344:=n3_;clear n0_ n1_ n2_ n3_;clear hb hbox hg))
   have n0_:=am' (kd' BK344.out);have n1_:=am' (be' HB.out);clear BK344;clear HB;have BK344:=n0_;have HB:=n1_;clear n0_ n1_;refine start_ (n:=10) (S:=fun w'=>True) (ds:=[]) #[false,false,false,false,false,false,false,false,false,false] xk' rfl rfl trivial (fun hHeld=>?_);refine with_tabW impl_stateOf.tab1 impl_stateOf.bits1 (fun HT_ HW_=>?_);generalize w7.drew=w8 at BK344 HB hHeld ⊢
   refine pure_ (i:=0) (N:=some 7) (v:=?_) (a':=?_) #[true,false,false,false,false,false,false,false,false,false] rfl rfl (any_of HT_.out xk') (fun _ _ _ h=>h) (Or.inl ⟨by rfl,?_⟩) ?_ ?_
   rotate_left
   ·
    intro w';go_simp;with_reducible rfl
   rotate_left
   ·
    simp only[Act.put,sa',sb',sc',i64_w,i32_w];rfl
   refine pure_ (i:=2) (N:=some 9) (v:=?_) (a':=?_) #[true,false,true,false,false,false,false,false,false,false] rfl rfl (any_of HT_.out xk') (fun _ _ _ h=>h) (Or.inl ⟨by rfl,?_⟩) ?_ ?_
   rotate_left
   ·
    intro w';go_simp;with_reducible rfl
   rotate_left
   ·
    simp only[Act.put,sa',sb',sc',i64_w,i32_w];rfl
   refine pure_ (i:=3) (N:=some 10) (v:=?_) (a':=?_) #[true,false,true,true,false,false,false,false,false,false] rfl rfl (any_of HT_.out xk') (fun _ _ _ h=>h) (Or.inl ⟨by rfl,?_⟩) ?_ ?_
   rotate_left
   ·
    intro w';go_simp;with_reducible rfl
   rotate_left
   ·
    simp only[Act.put,sa',sb',sc',i64_w,i32_w];rfl
   refine pure_ (i:=4) (N:=some 11) (v:=?_) (a':=?_) #[true,false,true,true,true,false,false,false,false,false] rfl rfl (any_of HT_.out xk') (fun _ _ _ h=>h) (Or.inl ⟨by rfl,?_⟩) ?_ ?_
   rotate_left
   ·
    intro w';go_simp;with_reducible rfl
   rotate_left
   ·
    simp only[Act.put,sa',sb',sc',i64_w,i32_w];rfl
   refine pure_ (i:=5) (N:=some 12) (v:=?_) (a':=?_) #[true,false,true,true,true,true,false,false,false,false] rfl rfl (any_of HT_.out xk') (fun _ _ _ h=>h) (Or.inl ⟨by rfl,?_⟩) ?_ ?_
   rotate_left
   ·
    intro w';go_simp;with_reducible rfl
   rotate_left
   ·
    simp only[Act.put,sa',sb',sc',i64_w,i32_w];rfl
   refine pure_ (i:=6) (N:=some 13) (v:=?_) (a':=?_) #[true,false,true,true,true,true,true,false,false,false] rfl rfl (any_of HT_.out xk') (fun _ _ _ h=>h) (Or.inl ⟨by rfl,?_⟩) ?_ ?_
   rotate_left
   ·
    intro w';go_simp;with_reducible rfl
   rotate_left
   ·
    simp only[Act.put,sa',sb',sc',i64_w,i32_w];rfl
   refine join_ (σ:=Value × Nat) 1 #[true,true,true,true,true,true,true,true,true,false] (fun s_=>[(8,s_.1),(5, .pointer (some ⟨s_.2,0,none⟩)),(14, .agg #[s_.1, .bool ((Go.bits .and .i64 (ji6) 1) == 1)])]) (fun s_ w'=>(Kd.R Kd.bool 4 w' w.heap.size (fun _=>True) s_.1 y345)∧(w'.heap[gb344]? = some (.cells #[.slice none 0 0, .bool false] 54 (0,0)))∧(w'.heap[s_.2]? = some (.cells #[.slice none 0 0, .bool false] 54 (0,0)))∧(w.heap.size≤s_.2)∧(w.heap.size≤s_.2)∧(gb344≠s_.2)∧(s_.2≠gb344)∧(Below w.heap.size w w')) ?_ ?_
   rotate_left
   ·
    intro hCont;refine two_ (i:=1) (j:=8) (Ni:=some 8) (Nj:=some 5) #[true,true,true,true,true,true,true,false,false,false] #[true,false,true,true,true,true,true,false,true,false] rfl rfl rfl rfl (two_of HT_.out xk') (by decide) (by decide) (fun K hK=>?_) (fun K hK=>?_)
    ·
     skip
     refine Kd.R_make_step Kd.bool _ 4 (by rfl) (N:=8) rfl 52 _ _ rfl a0 rfl rfl Try.underlying52 (.bool false) 1 info4 rfl (by decide) (by omega) false (ok:=fun _=>True) (okp:=fun _=>True) rfl (fun _ hk=>hk) trivial (od' xa') (Nat.le_trans (Nat.mul_le_mul_right _ (od' xa':a0.toNat≤281474976710656)) (by omega)) (Below.refl _ _) (Nat.le_refl _) ?_
     intro v346 w9 ho10 hb hg_ hnew_;clear hg_ hnew_;(first|rw[← Ny345.out] at ho10|(simp only[Int.reduceToNat] at ho10;rw[← Ny345.out] at ho10))
     have n0_:=am' (Kd.R_lower ho10 (bz' (yb' GE344.out)));have n1_:=am' (bb' (g:=gb344) (o := .cells #[.slice none 0 0, .bool false] 54 (0,0)) (kk' BK344.out) hb);have n2_:=am' (bt' (yb' GE344.out) hb);clear BK344;clear HB;have HO347:=n0_;have BK344:=n1_;have HB:=n2_;clear n0_ n1_ n2_;clear hb ho10;obtain ⟨Ao11,co11,eo11⟩:=Kd.R_slice HO347.out
     (first|subst eo11|(injection eo11 with f1_ f2_ f3_;have f4_:=f1_.symm;have f5_:=f3_.symm;clear f1_ f2_ f3_;subst f4_;subst f5_))
     refine hK.out _ _ trivial (fun hHeld=>?_);clear hK K;refine norm_ (a':=?_) ?_ ?_
     rotate_left
     ·
      show Act.put _ (some 8) _=_
      simp only[Act.put,sa',sb',sc',i64_w,i32_w];rfl
     refine pure_ (i:=7) (N:=some 14) (v:=?_) (a':=?_) #[true,true,true,true,true,true,true,true,false,false] rfl rfl (any_of HT_.out xk') (fun _ _ _ h=>h) (Or.inl ⟨by rfl,?_⟩) ?_ ?_
     rotate_left
     ·
      intro w';go_simp;with_reducible rfl
     rotate_left
     ·
      simp only[Act.put,sa',sb',sc',i64_w,i32_w];rfl
     refine one_ (i:=8) (N:=some 5) #[true,true,true,true,true,true,true,true,true,false] rfl rfl (one_of HT_.out xk') (by decide) (fun K hK=>?_);refine box_step ?hg (N:=5) ?hd (cs:=#[.slice none 0 0, .bool false]) (t:=54) ?hr ?_;(case hd=>rfl);(case hg=>rfl);(case hr=>first|(go_simp;done)|(go_simp;rfl))
     intro gb348 hg w12 hbox hb;have n0_:=am' (rb' (kr' HO347.out) hb);have n1_:=am' (bb' (g:=gb344) (o := .cells #[.slice none 0 0, .bool false] 54 (0,0)) (kk' BK344.out) hb);have n2_:=am' (bt' (yb' GE344.out) hb);have n3_:=am' (hbox);have n4_:=am' ((by rw[hg];exact (bz' (yb' GE344.out)):w.heap.size≤gb348));have n5_:=am' ((by rw[hg];exact (bz' (yb' GE344.out)):w.heap.size≤gb348));have n6_:=am' ((by rw[hg];exact Nat.ne_of_lt (blk_lt (g:=gb344) (o := .cells #[.slice none 0 0, .bool false] 54 (0,0)) (kk' BK344.out)):gb344≠gb348));have n7_:=am' ((by rw[hg];exact Nat.ne_of_gt (blk_lt (g:=gb344) (o := .cells #[.slice none 0 0, .bool false] 54 (0,0)) (kk' BK344.out)):gb348≠gb344));clear HO347;clear BK344;clear HB;have HO347:=n0_;have BK344:=n1_;have HB:=n2_;have BK348:=n3_;have GW348:=n4_;have GE348:=n5_;have NB344_348:=n6_;have NB348_344:=n7_;clear n0_ n1_ n2_ n3_ n4_ n5_ n6_ n7_;clear hb hbox hg;refine hK.out _ _ trivial (fun hHeld=>?_);clear hK K;refine norm_ (a':=?_) ?_ ?_
     rotate_left
     ·
      show Act.put _ (some 5) _=_
      simp only[Act.put,sa',sb',sc',i64_w,i32_w];rfl
     exact norm_ (by simp only[putAll,Act.put,sa',sb',sc']) (hCont (.slice Ao11 y345.length co11,gb348) _ ⟨(kr' HO347.out),(kk' BK344.out),(kk' BK348.out),GW348.out,GE348.out,NB344_348.out,NB348_344.out,(y2' GE344.out GE348.out)⟩)
    ·
     skip
     refine box_step ?hg (N:=5) ?hd (cs:=#[.slice none 0 0, .bool false]) (t:=54) ?hr ?_;(case hd=>rfl);(case hg=>rfl);(case hr=>first|(go_simp;done)|(go_simp;rfl))
     intro gb348 hg w9 hbox hb;have n0_:=am' (bb' (g:=gb344) (o := .cells #[.slice none 0 0, .bool false] 54 (0,0)) (kk' BK344.out) hb);have n1_:=am' (bt' (yb' GE344.out) hb);have n2_:=am' (hbox);have n3_:=am' ((by rw[hg];exact (bz' (yb' GE344.out)):w.heap.size≤gb348));have n4_:=am' ((by rw[hg];exact (bz' (yb' GE344.out)):w.heap.size≤gb348));have n5_:=am' ((by rw[hg];exact Nat.ne_of_lt (blk_lt (g:=gb344) (o := .cells #[.slice none 0 0, .bool false] 54 (0,0)) (kk' BK344.out)):gb344≠gb348));have n6_:=am' ((by rw[hg];exact Nat.ne_of_gt (blk_lt (g:=gb344) (o := .cells #[.slice none 0 0, .bool false] 54 (0,0)) (kk' BK344.out)):gb348≠gb344));clear BK344;clear HB;have BK344:=n0_;have HB:=n1_;have BK348:=n2_;have GW348:=n3_;have GE348:=n4_;have NB344_348:=n5_;have NB348_344:=n6_;clear n0_ n1_ n2_ n3_ n4_ n5_ n6_;clear hb hbox hg;refine hK.out _ _ trivial (fun hHeld=>?_);clear hK K;refine norm_ (a':=?_) ?_ ?_
     rotate_left
     ·
      show Act.put _ (some 5) _=_
      simp only[Act.put,sa',sb',sc',i64_w,i32_w];rfl
     refine one_ (i:=1) (N:=some 8) #[true,true,true,true,true,true,true,false,true,false] rfl rfl (one_of HT_.out xk') (by decide) (fun K hK=>?_);refine Kd.R_make_step Kd.bool _ 4 (by rfl) (N:=8) rfl 52 _ _ rfl a0 rfl rfl Try.underlying52 (.bool false) 1 info4 rfl (by decide) (by omega) false (ok:=fun _=>True) (okp:=fun _=>True) rfl (fun _ hk=>hk) trivial (od' xa') (Nat.le_trans (Nat.mul_le_mul_right _ (od' xa':a0.toNat≤281474976710656)) (by omega)) (Below.refl _ _) (Nat.le_refl _) ?_
     intro v346 w10 ho11 hb hg_ hnew_;clear hg_ hnew_;(first|rw[← Ny345.out] at ho11|(simp only[Int.reduceToNat] at ho11;rw[← Ny345.out] at ho11))
     have n0_:=am' (Kd.R_lower ho11 (bz' (y2' GE344.out GE348.out)));have n1_:=am' (bb' (g:=gb344) (o := .cells #[.slice none 0 0, .bool false] 54 (0,0)) (kk' BK344.out) hb);have n2_:=am' (bb' (g:=gb348) (o := .cells #[.slice none 0 0, .bool false] 54 (0,0)) (kk' BK348.out) hb);have n3_:=am' (bt' (y2' GE344.out GE348.out) hb);clear BK344;clear BK348;clear HB;have HO347:=n0_;have BK344:=n1_;have BK348:=n2_;have HB:=n3_;clear n0_ n1_ n2_ n3_;clear hb ho11;obtain ⟨Ao12,co12,eo12⟩:=Kd.R_slice HO347.out
     (first|subst eo12|(injection eo12 with f1_ f2_ f3_;have f4_:=f1_.symm;have f5_:=f3_.symm;clear f1_ f2_ f3_;subst f4_;subst f5_))
     refine hK.out _ _ trivial (fun hHeld=>?_);clear hK K;refine norm_ (a':=?_) ?_ ?_
     rotate_left
     ·
      show Act.put _ (some 8) _=_
      simp only[Act.put,sa',sb',sc',i64_w,i32_w];rfl
     refine pure_ (i:=7) (N:=some 14) (v:=?_) (a':=?_) #[true,true,true,true,true,true,true,true,true,false] rfl rfl (any_of HT_.out xk') (fun _ _ _ h=>h) (Or.inl ⟨by rfl,?_⟩) ?_ ?_
     rotate_left
     ·
      intro w';go_simp;with_reducible rfl
     rotate_left
     ·
      simp only[Act.put,sa',sb',sc',i64_w,i32_w];rfl
     exact norm_ (by simp only[putAll,Act.put,sa',sb',sc']) (hCont (.slice Ao12 y345.length co12,gb348) _ ⟨(kr' HO347.out),(kk' BK344.out),(kk' BK348.out),GW348.out,GE348.out,NB344_348.out,NB348_344.out,(y2' GE344.out GE348.out)⟩)
   rintro ⟨v346,gb348⟩ w13 ⟨h0_,h1_,h2_,h3_,h4_,h5_,h6_,h7_⟩
   have n0_:Aside0 (Kd.R Kd.bool 4 w13 w.heap.size (fun _=>True) v346 y345):=⟨h0_⟩
   have n1_:Aside0 (w13.heap[gb344]? = some (.cells #[.slice none 0 0, .bool false] 54 (0,0))):=⟨h1_⟩
   have n2_:Aside0 (w13.heap[gb348]? = some (.cells #[.slice none 0 0, .bool false] 54 (0,0))):=⟨h2_⟩
   have n3_:Aside0 (w.heap.size≤gb348):=⟨h3_⟩
   have n4_:Aside0 (w.heap.size≤gb348):=⟨h4_⟩
   have n5_:Aside0 (gb344≠gb348):=⟨h5_⟩
   have n6_:Aside0 (gb348≠gb344):=⟨h6_⟩
   have n7_:Aside0 (Below w.heap.size w w13):=⟨h7_⟩
   clear BK344;clear HB;clear h0_ h1_ h2_ h3_ h4_ h5_ h6_ h7_;have HO347:=n0_;have BK344:=n1_;have BK348:=n2_;have GW348:=n3_;have GE348:=n4_;have NB344_348:=n5_;have NB348_344:=n6_;have HB:=n7_;clear n0_ n1_ n2_ n3_ n4_ n5_ n6_ n7_;have hHeld:=trivial;obtain ⟨Ao14,co14,eo14⟩:=Kd.R_slice HO347.out
   (first|subst eo14|(injection eo14 with f1_ f2_ f3_;have f4_:=f1_.symm;have f5_:=f3_.symm;clear f1_ f2_ f3_;subst f4_;subst f5_))
   refine norm_ (a':=?_) ?_ ?_
   rotate_left
   ·
    simp only[putAll,Act.put,sa',sb',sc'];rfl
   refine one_ (i:=9) (N:=none) #[true,true,true,true,true,true,true,true,true,true] rfl rfl (one_of HT_.out xk') (by decide) (fun K hK=>?_);have hs15:w13.cell? ⟨gb348,0,none⟩=some (.slice none 0 0):=(bc' BK348.out 0).trans rfl;have hfs15:=bf' BK348.out 0;have hns15_0:=NB344_348.out;have hms15_0:=NB348_344.out;have hs16:w13.cell? ⟨gb348,1,none⟩=some (.bool false):=(bc' BK348.out 1).trans rfl;have hfs16:=bf' BK348.out 1;have hns16_0:=NB344_348.out;have hms16_0:=NB348_344.out;refine skip_ (w1:=?_) (by rfl) rfl ?_ ?_
   rotate_left
   ·
    go_simp;rfl
   refine hK.out _ _ trivial (fun hHeld=>?_);clear hK K;refine done_ (done_of HT_.out xk') ?_
   have hnb17:=NB348_344.out;have hnc17:=NB344_348.out;have hcz18_0:w13.cell? ⟨gb348,0,none⟩=some (.slice none 0 0):=(bc' BK348.out 0).trans rfl;have hcz18_1:w13.cell? ⟨gb348,1,none⟩=some (.bool false):=(bc' BK348.out 1).trans rfl;have hfz18_0:=bf' BK348.out 0;have hfz18_1:=bf' BK348.out 1
   try go_wp2
   go_loopg [18] k (fun kq v18 w'=>∃ (x18_1:Int) (x349000_1:List Bool) (u349000:Value),v18 = .int .i64 x18_1∧Aside0 (impl_stateOf.l0 kq a1 (y345.length:Int) x18_1 x349000_1 ((Go.bits .and .i64 (ji6) 1) == 1)=some (r1,r2))∧Aside0 (kq≤k)∧Aside0 (Kd.R Kd.bool 4 w' w.heap.size (fun _=>True) u349000 x349000_1)∧Aside0 (w'.heap[gb344]? = some (.cells #[(.slice none 0 0), .bool false] 54 (0,0)))∧Aside0 (w'.heap[gb348]? = some (.cells #[u349000, .bool ((Go.bits .and .i64 (ji6) 1) == 1)] 54 (0,0)))∧Aside0 (Below w.heap.size w w'))
   case atStart=>exact ⟨(0),(y345),(.slice Ao14 y345.length co14),xs',H',⟨Nat.le_refl _⟩,⟨by (with_reducible repeat (first|apply ra'|apply rn'|apply rw'));exact Kd.R_mono (Kd.R_far (p:=⟨gb348,1,none⟩) (Kd.R_far (p:=⟨gb348,0,none⟩) (Kd.R_types HO347.out BK348.out (by decide)) (fun _ hk=>hk.2) (.slice Ao14 y345.length co14)) (fun _ hk=>hk.2) (.bool ((Go.bits .and .i64 (ji6) 1) == 1))) (fun _ hk=>trivial)⟩,⟨by (with_reducible repeat (first|refine kn' ?_ _|refine kd' ?_|refine ka' ?_ _));refine blk_far ?_ NB344_348.out _;(with_reducible repeat (first|refine kn' ?_ _|refine kd' ?_|refine ka' ?_ _));refine blk_far ?_ NB344_348.out _;(with_reducible repeat (first|refine kn' ?_ _|refine kd' ?_|refine ka' ?_ _));exact BK344.out⟩,⟨by (with_reducible repeat (first|refine kn' ?_ _|refine kd' ?_|refine ka' ?_ _));refine blk_put (cs:=#[.slice Ao14 y345.length co14, .bool false]) ?_ 1 _ rfl;(with_reducible repeat (first|refine kn' ?_ _|refine kd' ?_|refine ka' ?_ _));refine blk_put (cs:=#[.slice none 0 0, .bool false]) ?_ 0 _ rfl;(with_reducible repeat (first|refine kn' ?_ _|refine kd' ?_|refine ka' ?_ _));exact BK348.out⟩,⟨y2' GE344.out GE348.out⟩⟩
   case round =>
    clear H';try clear c1
    try clear p2
    try clear c3
    try clear c3b0
    try clear c3b1
    try clear c4
    try clear c4b0
    try clear c4b1
    try clear c5
    try clear c5b0
    try clear c17
    try clear hcz18_0
    try clear hcz18_1
    try clear hfz18_0
    try clear hfz18_1
    obtain ⟨x18_1,x349000_1,u349000,rfl,HA,HK1,HO_349000,BK344,BK348,HB⟩:=hrel;cases gk with
    | zero=>exact absurd HA.out (by simp[impl_stateOf.l0])
    | succ k1 =>
     have H:=HA.out;clear HA;simp only[impl_stateOf.l0] at H;by_cases c19:x18_1 < (y345.length:Int)
     ·
      rw[if_pos c19] at H;have c19b0:decide (x18_1 < (y345.length:Int))=true:=dt' c19;clear c19;by_cases c20:0≤x18_1
      ·
       rw[if_pos c20] at H;have c20b0:=eq_true c20;have c20b1:decide (0≤x18_1)=true:=dt' c20;clear c20;obtain ⟨ji21,hji21⟩:∃ j_:Int,(shr .i64 a1 x18_1)=j_:=⟨_,rfl⟩
       replace H:(if x18_1 < (x349000_1.length:Int) then (impl_stateOf.l0 k1 a1 (y345.length:Int) (wrap64 (x18_1+1)) (x349000_1.set (x18_1:Int).toNat ((Go.bits .and .i64 (ji21) 1) == 1)) ((Go.bits .and .i64 (ji6) 1) == 1)) else (none))=some (r1,r2):=by first|(rw[hji21] at H;exact H)|(simp only[hji21] at H ⊢;exact H)
       have hji21_:(a1 / 2 ^ min x18_1.toNat 64)=ji21:=hji21;have hji21z:x18_1≤64→(a1 / 2 ^ x18_1.toNat)=ji21:=shr_small hji21;by_cases c22:x18_1 < (x349000_1.length:Int)
       ·
        rw[if_pos c22] at H;have c22b0:decide (x18_1 < (x349000_1.length:Int))=true:=dt' c22;clear c22;obtain ⟨y349,hy349⟩:∃ y_:List Bool,y_=(x349000_1.set (x18_1:Int).toNat ((Go.bits .and .i64 (ji21) 1) == 1)):=⟨_,rfl⟩
        replace H:(impl_stateOf.l0 k1 a1 (y345.length:Int) (wrap64 (x18_1+1)) y349 ((Go.bits .and .i64 (ji6) 1) == 1))=some (r1,r2):=by first|(rw[hy349];with_reducible exact H)|(have H2_:=(Option.bind_some _ _).symm.trans H;rw[hy349];with_reducible exact H2_)|(have H2_:=(Option.bind_some _ _).symm.trans H;with_reducible exact H2_)|with_reducible exact H|(rw[hy349];exact H)|exact H
        have Ny349:=am' hy349;clear hy349;have H':=am' H;clear H;try go_wp2
        have n0_:=am' (rw' HO_349000.out);have n1_:=am' (kd' BK344.out);have n2_:=am' (kd' BK348.out);have n3_:=am' (be' HB.out);clear HO_349000;clear BK344;clear BK348;clear HB;have HO_349000:=n0_;have BK344:=n1_;have BK348:=n2_;have HB:=n3_;clear n0_ n1_ n2_ n3_;have p23:0≤(x18_1:Int):=od' xa';have q23:(x18_1:Int) < ((x349000_1.length:Int):Int):=od' xa';obtain ⟨go23,co23,eo23,gb23,gl23,cl23,HG23⟩:=Kd.R_form HO_349000.out (by omega)
        (first|cases eo23|(injection eo23 with ea_ en_ ec_;(first|subst ea_|(injection ea_ with ea_;subst ea_));subst ec_;clear en_))
        have GB23:=am' gb23;have GG23:=am' HG23;clear gb23 gl23 HG23;obtain ⟨hx23_0,hf23_0⟩:=Kd.R_celln false HO_349000.out (x18_1:Int) p23 q23;replace p23:=eq_true p23;replace q23:=eq_true q23;have HP25:=Kd.R_putn HO_349000.out (x18_1:Int) ((Go.bits .and .i64 (ji21) 1) == 1);rw[← Ny349.out] at HP25;have HQ25:=am' HP25;clear HP25;refine start_ (n:=10) (S:=fun w'=>w'.cell? ⟨gb348,0,none⟩=some (.slice (some ⟨go23,0,none⟩) x349000_1.length co23)∧w'.cell? ⟨gb348,1,none⟩=some (.bool ((Go.bits .and .i64 (ji6) 1) == 1))) (ds:=[9]) #[false,false,false,false,false,false,false,false,false,false] xk' rfl rfl ⟨(bc' BK348.out 0).trans rfl,(bc' BK348.out 1).trans rfl⟩ (fun hHeld=>?_);refine with_tabW impl_stateOf.tab5 impl_stateOf.bits5 (fun HT_ HW_=>?_);generalize wr.drew=w24 at HO_349000 BK344 BK348 HB GG23 HQ25 hf23_0 hx23_0 hHeld ⊢
        refine pure_ (i:=0) (N:=some 21) (v:=?_) (a':=?_) #[true,false,false,false,false,false,false,false,false,false] rfl rfl (any_of HT_.out xk') (fun _ _ _ h=>h) (Or.inl ⟨by rfl,?_⟩) ?_ ?_
        rotate_left
        ·
         intro w';go_simp;with_reducible rfl
        rotate_left
        ·
         simp only[Act.put,sa',sb',sc',i64_w,i32_w];rfl
        refine pure_ (i:=2) (N:=some 23) (v:=?_) (a':=?_) #[true,false,true,false,false,false,false,false,false,false] rfl rfl (any_of HT_.out xk') (fun _ _ _ h=>h) (Or.inl ⟨by rfl,?_⟩) ?_ ?_
        rotate_left
        ·
         intro w';go_simp;with_reducible rfl
        rotate_left
        ·
         simp only[Act.put,sa',sb',sc',i64_w,i32_w];rfl
        refine pure_ (i:=3) (N:=some 24) (v:=?_) (a':=?_) #[true,false,true,true,false,false,false,false,false,false] rfl rfl (any_of HT_.out xk') (fun _ _ _ h=>h) (Or.inl ⟨by rfl,?_⟩) ?_ ?_
        rotate_left
        ·
         intro w';go_simp;with_reducible rfl
        rotate_left
        ·
         simp only[Act.put,sa',sb',sc',i64_w,i32_w];rfl
        refine pure_ (i:=4) (N:=some 25) (v:=?_) (a':=?_) #[true,false,true,true,true,false,false,false,false,false] rfl rfl (any_of HT_.out xk') (fun _ _ _ h=>h) (Or.inl ⟨by rfl,?_⟩) ?_ ?_
        rotate_left
        ·
         intro w';go_simp;with_reducible rfl
        rotate_left
        ·
         simp only[Act.put,sa',sb',sc',i64_w,i32_w];rfl
        refine pure_ (i:=5) (N:=some 26) (v:=?_) (a':=?_) #[true,false,true,true,true,true,false,false,false,false] rfl rfl (any_of HT_.out xk') (fun _ _ _ h=>h) (Or.inl ⟨by rfl,?_⟩) ?_ ?_
        rotate_left
        ·
         intro w';go_simp;with_reducible rfl
        rotate_left
        ·
         simp only[Act.put,sa',sb',sc',i64_w,i32_w];rfl
        refine pure_ (i:=6) (N:=some 27) (v:=?_) (a':=?_) #[true,false,true,true,true,true,true,false,false,false] rfl rfl (any_of HT_.out xk') (fun _ _ _ h=>h) (Or.inl ⟨by rfl,?_⟩) ?_ ?_
        rotate_left
        ·
         intro w';go_simp;with_reducible rfl
        rotate_left
        ·
         simp only[Act.put,sa',sb',sc',i64_w,i32_w];rfl
        refine pure_ (i:=7) (N:=some 28) (v:=?_) (a':=?_) #[true,false,true,true,true,true,true,true,false,false] rfl rfl (any_of HT_.out xk') (fun _ _ _ h=>h) (Or.inl ⟨by rfl,?_⟩) ?_ ?_
        rotate_left
        ·
         intro w';go_simp;with_reducible rfl
        rotate_left
        ·
         simp only[Act.put,sa',sb',sc',i64_w,i32_w];rfl
        refine take_ (i:=1) (N:=some 22) (v:=?_) (a':=?_) #[true,true,true,true,true,true,true,true,false,false] rfl rfl (take_ofW HT_.out HW_.out xk') (fun _ _ _ h=>h) (Or.inl ⟨by rfl,?_⟩) hHeld ?_ ?_
        rotate_left
        ·
         rintro w' ⟨s0,s1⟩
         go_simp;with_reducible rfl
        rotate_left
        ·
         simp only[Act.put,sa',sb',sc',i64_w,i32_w];rfl
        refine pure_ (i:=8) (N:=some 29) (v:=?_) (a':=?_) #[true,true,true,true,true,true,true,true,true,false] rfl rfl (any_of HT_.out xk') (fun _ _ _ h=>h) (Or.inl ⟨by rfl,?_⟩) ?_ ?_
        rotate_left
        ·
         intro w';go_simp;with_reducible rfl
        rotate_left
        ·
         simp only[Act.put,sa',sb',sc',i64_w,i32_w];rfl
        refine last_ (i:=9) (N:=none) #[true,true,true,true,true,true,true,true,true,true] rfl rfl (one_of HT_.out xk') (by decide) (fun K hK=>?_);refine skip_ (w1:=?_) (by rfl) rfl ?_ ?_
        rotate_left
        ·
         go_simp;rfl
        refine hK.out _ _ ?_
        clear hK K;refine done_ (done_of HT_.out xk') ?_
        try go_wp2
        go_roundg k1
        case measure=>have:=HK1.out;omega
        case rel=>exact ⟨(wrap64 (x18_1+1)),(y349),(.slice (some ⟨go23,0,none⟩) x349000_1.length co23),xs',H',⟨by have:=HK1.out;omega⟩,⟨kr' HQ25.out⟩,⟨by (with_reducible repeat (first|refine kn' ?_ _|refine kd' ?_|refine ka' ?_ _));refine blk_far ?_ (by have h_:=Kd.R_ne HO_349000.out BK344.out (by decide);intro e_;exact h_ (by rw[e_];rfl)) _;(with_reducible repeat (first|refine kn' ?_ _|refine kd' ?_|refine ka' ?_ _));exact BK344.out⟩,⟨by (with_reducible repeat (first|refine kn' ?_ _|refine kd' ?_|refine ka' ?_ _));refine blk_far ?_ (by have h_:=Kd.R_ne HO_349000.out BK348.out (by decide);intro e_;exact h_ (by rw[e_];rfl)) _;(with_reducible repeat (first|refine kn' ?_ _|refine kd' ?_|refine ka' ?_ _));exact BK348.out⟩,⟨y3' GB23.out GE344.out GE348.out⟩⟩
       ·
        rw[if_neg c22] at H;exact absurd H (by simp)
      ·
       rw[if_neg c20] at H;exact absurd H (by simp)
     ·
      rw[if_neg c19] at H;have c19b0:decide (x18_1 < (y345.length:Int))=false:=df' c19;clear c19;simp only[Option.some.injEq,Prod.mk.injEq] at H;obtain ⟨rfl,rfl⟩:=H;have hnb26:=NB348_344.out;have hnc26:=NB344_348.out;have hcz27_0:wr.cell? ⟨gb348,0,none⟩=some (u349000):=(bc' BK348.out 0).trans rfl;have hcz27_1:wr.cell? ⟨gb348,1,none⟩=some (.bool ((Go.bits .and .i64 (ji6) 1) == 1)):=(bc' BK348.out 1).trans rfl;have hfz27_0:=bf' BK348.out 0;have hfz27_1:=bf' BK348.out 1;obtain ⟨Ao28,co28,eo28⟩:=Kd.R_slice HO_349000.out;subst eo28;have hcz29_0:wr.cell? ⟨gb344,0,none⟩=some (.slice none 0 0):=(bc' BK344.out 0).trans rfl;have hcz29_1:wr.cell? ⟨gb344,1,none⟩=some (.bool false):=(bc' BK344.out 1).trans rfl;have hfz29_0:=bf' BK344.out 0;have hfz29_1:=bf' BK344.out 1;go_wp2;refine bodyPost_ret (results_cell_row rfl _ _ gb344 54 #[.slice Ao28 x349000_1.length co28, .bool ((Go.bits .and .i64 (ji6) 1) == 1)] (0,0) _ rfl (by (with_reducible repeat (first|refine kn' ?_ _|refine kd' ?_|refine ka' ?_ _));refine blk_put (cs:=#[.slice Ao28 x349000_1.length co28, .bool false]) ?_ 1 _ rfl;(with_reducible repeat (first|refine kn' ?_ _|refine kd' ?_|refine ka' ?_ _));refine blk_put (cs:=#[.slice none 0 0, .bool false]) ?_ 0 _ rfl;(with_reducible repeat (first|refine kn' ?_ _|refine kd' ?_|refine ka' ?_ _));exact BK344.out) Try.underlying54 rfl xk') rfl ?_
      exact ⟨_,by first|rfl|(simp[errW_none,errW_some] <;> rfl)|(simp only[← hji6];first|rfl|(simp[errW_none,errW_some] <;> rfl))|(simp[*,errW_none,errW_some] <;> rfl),by (with_reducible repeat (first|apply ra'|apply rn'|apply rw'));exact Kd.R_mono (Kd.R_far (p:=⟨gb344,1,none⟩) (Kd.R_far (p:=⟨gb344,0,none⟩) (Kd.R_types HO_349000.out BK344.out (by decide)) (fun _ hk=>hk.2) (.slice Ao28 x349000_1.length co28)) (fun _ hk=>hk.2) (.bool ((Go.bits .and .i64 (ji6) 1) == 1))) (fun _ hk=>trivial),y2' GE344.out GE348.out⟩
  ·
   rw[if_neg c4] at H;exact absurd H (by simp)
 ·
  rw[if_neg c3] at H;exact absurd H (by simp)
def slices_Clone_int_int.f (l0:List Int):Option (List Int):=if l0.length < 17592186044416 then some l0 else none
set_option maxHeartbeats 2000000 in
set_option maxRecDepth 100000 in
theorem slices_Clone_int_int.calls (A0:Option Addr) (c0:Nat) (l0:List Int) (r:List Int) (w:World) (hr0:Kd.C (Kd.int .i64) w A0 l0.length l0) (hc0:l0.length≤c0) (h:slices_Clone_int_int.f l0=some r) :
  Calls Try.prog 69 #[.slice A0 l0.length c0] w fun e w'=>∃ v0_:Value,e = .returned (v0_)∧Kd.R (Kd.int .i64) 3 w' w.heap.size (fun _=>True) v0_ r∧Below w.heap.size w w':=by
 have hinfo:(Try.prog.info? 3).map (fun i=>(i.zero,i.size,i.bytes))=some (some (.int .i64 0),1,8):=by kernel_rfl
 obtain ⟨hlim,rfl⟩:l0.length < 17592186044416∧l0=r:=by
  unfold slices_Clone_int_int.f at h
  by_cases hl:l0.length < 17592186044416
  ·
   rw[if_pos hl] at h;exact ⟨hl,os' h⟩
  ·
   rw[if_neg hl] at h;cases h
 clear h;cases A0 with
 | none =>
  obtain rfl:l0=[]:=by
   cases l0 with
   | nil=>rfl
   | cons x l=>obtain ⟨_,e,_⟩:=hr0.2.2 (by simp);cases e
  clear hr0 hc0 hlim hinfo;have heq:=fun (w:World) (n c:Nat)=>Lib.run_eql_slice_nil (P:=Try.prog) w 22 3 none n c 0 0 Try.underlying22
  go_enter Try.func69,Try.ntmps69;go_wp2;go_ret
  exact ⟨_,rfl,Kd.R_nil _ _ _ _ _,Below.refl _ _⟩
 | some a =>
  have HR0:=am' hr0;have HL:=am' hlim;have hie:=am' hinfo;clear hr0 hc0 hlim hinfo;have HB:=am' (Below.refl w.heap.size w);have heq:=fun (w:World) (n c:Nat)=>Lib.run_eql_slice_nil (P:=Try.prog) w 22 3 (some a) n c 0 0 Try.underlying22
  go_enter Try.func69,Try.ntmps69;go_wp2_with (first|((with_reducible refine gate_dst (N:=5) rfl ?_);refine Kd.R_lit (Kd.int .i64) _ 3 ?hg (N:=5) ?hd (xs:=([]:List Int)) (inner:=[]) (ok:=fun _=>True) (okp:=fun _=>True) ?hr ?hp (fun _ hk=>hk) trivial (Below.refl _ _) (Nat.le_refl _) (by simp) ?_;(case hd=>rfl);(case hg=>rfl);(case hr=>first|(go_simp;done)|(go_simp;rfl));(case hp=>exact (Reps.none _ _));intro v210 w3 ho4 hb hg_ hnew_;clear hg_ hnew_;have n0_:=am' (Kd.R_lower ho4 (bz' HB.out));have n1_:=am' (bt' HB.out hb);clear HB;have HO211:=n0_;have HB:=n1_;clear n0_ n1_;clear hb ho4)|((with_reducible refine gate_builtin (b := .append) (xs:=#[.tmp 5, .tmp 6]) rfl ?_);at_builtin;refine Kd.R_append_rows (Kd.int .i64) (w0:=w) w.heap.size rfl (.tmp 5) (.tmp 6) 22 3 (.int .i64 0) 8 rfl Try.underlying22 hie.out rfl (by decide) (by omega) v210 [] l0 _ _ _ (fun _=>True) (fun _=>False) rfl rfl ?aO ?aR (fun _ _ h=>h) (fun _ h=>h.elim) ?aF ?aB ?aS ?aL ?_;(case aR=>exact (cb' HR0.out HB.out));(case aB=>exact HB.out);(case aF=>exact (fun _ _=>trivial));(case aO=>exact HO211.out);(case aS=>exact (bz' HB.out));(case aL=>have:=HL.out;simp;omega);intro v213 w5 ho hb hg hat;have n0_:=am' (hb);have n1_:=am' (ho);clear HB;clear HO211;have HB:=n0_;have HO214:=n1_;clear n0_ n1_;clear ho hb hg hat));go_ret
  exact ⟨_,rfl,by simpa using HO214.out,HB.out⟩
def grpsF (most:Int):List Int→List Int→List (List Int)
 | [],_=>[]
 | x :: r,l=>if (l.length:Int) < most then (l ++ [x]) :: (grpsF most r (l ++ [x]) ++ grpsF most r l) else []
def CbPost {σ:Type} (B:Nat) (Inv:σ→World→(Nat→Prop)→Prop) (s':σ) (O:Nat→Prop) (W:World) (e:Ending) (W':World):Prop :=
 e = .returned (.tuple #[])∧Below B W W'∧∃ O',Inv s' W' O'∧Kept W W' O∧∀ k,O' k→O k∨W.heap.size≤k
def EachOk {σ:Type} (B g:Nat) (lb:Array Value) (Inv:σ→World→(Nat→Prop)→Prop) (step:σ→List Int→Option σ):Prop :=
 ∀ (s s':σ) (O:Nat→Prop) (W0 W:World) (v:Value) (l:List Int),Inv s W0 O→Below W0.heap.size W0 W→Kd.R (Kd.int .i64) 3 W W0.heap.size (fun _=>True) v l→step s l=some s' →
  Calls Try.prog g (#[v] ++ lb) W (CbPost B Inv s' O W)
structure GFr (w:World) (O:Nat→Prop) (g:Nat) (lb:Array Value) (people:List Int) (most:Int) (A:Option Addr) (c p0 p1 p2 p3:Nat):Prop where
 h0:w.heap[p0]? = some (.cells #[.slice A people.length c] 22 (0,0))
 h1:w.heap[p1]? = some (.cells #[.int .i64 most] 3 (0,0))
 h2:w.heap[p2]? = some (.cells #[.func (.func g) #[] lb] 85 (0,0))
 h3:w.heap[p3]? = some (.cells #[.func (.func 68) #[] #[.pointer (some ⟨p0,0,none⟩), .pointer (some ⟨p1,0,none⟩), .pointer (some ⟨p2,0,none⟩), .pointer (some ⟨p3,0,none⟩)]] 94 (0,0))
 n0:¬ O p0
 n1:¬ O p1
 n2:¬ O p2
 n3:¬ O p3
 hF:Kd.F (Kd.int .i64) w (fun k=>¬ O k) A people.length people
theorem GFr.kept {w W:World} {O O':Nat→Prop} {g:Nat} {lb:Array Value} {people:List Int} {most:Int} {A:Option Addr} {c p0 p1 p2 p3:Nat} (h:GFr w O g lb people most A c p0 p1 p2 p3) (hk:Kept w W O) (ho:∀ k,O' k→O k∨w.heap.size≤k):GFr W O' g lb people most A c p0 p1 p2 p3:=by
 have lt:∀ {p:Nat} {o:Obj},w.heap[p]? = some o→¬ O p→¬ O' p:=fun hp hn h=>by
  rcases ho _ h with q|q
  ·
   exact hn q
  ·
   have:=blk_lt hp;omega
 exact ⟨blk_kept h.h0 hk h.n0,blk_kept h.h1 hk h.n1,blk_kept h.h2 hk h.n2,blk_kept h.h3 hk h.n3,lt h.h0 h.n0,lt h.h1 h.n1,lt h.h2 h.n2,lt h.h3 h.n3,
  Kd.F_mono (Kd.F_kept (Kd.F_bound h.hF) hk (fun _ q=>q.1)) (fun k q q2=>by rcases ho k q2 with q3|q3;exact q.1 q3;omega)⟩
theorem F_turn {w W:World} {O O':Nat→Prop} {A:Option Addr} {n:Nat} {l:List Int} (h:Kd.F (Kd.int .i64) w (fun k=>¬ O k) A n l) (hk:Kept w W O) (ho:∀ k,O' k→O k∨w.heap.size≤k):Kd.F (Kd.int .i64) W (fun k=>¬ O' k) A n l :=
 Kd.F_mono (Kd.F_kept (Kd.F_bound h) hk (fun _ q=>q.1)) (fun k q q2=>by rcases ho k q2 with q3|q3;exact q.1 q3;omega)
section
variable {σ:Type} {B g:Nat} {lb:Array Value} {Inv:σ→World→(Nat→Prop)→Prop} {step:σ→List Int→Option σ}
set_option maxHeartbeats 2000000 in
set_option maxRecDepth 100000 in
theorem on_any (HE:EachOk B g lb Inv step) (HI:∀ s W O,Inv s W O→∀ k,O k→B≤k∧k < W.heap.size) (eg:∀ args w,(callFunc g args).run Try.prog w = .ok (.enter g args) w)
  (people:List Int) (most:Int) (A:Option Addr) (c p0 p1 p2 p3:Nat) (hpc:people.length≤c) (hpl:people.length≤1048576) :
  ∀ (d f:Nat) (s s':σ) (O:Nat→Prop) (w:World) (Al:Option Addr) (cl:Nat) (l:List Int),people.length - f≤d→f≤people.length→B≤w.heap.size→Inv s w O→GFr w O g lb people most A c p0 p1 p2 p3→Kd.F (Kd.int .i64) w (fun k=>¬ O k) Al l.length l→l.length≤cl→l.length+(people.length - f)≤1048576 →
   (grpsF most (people.drop f) l).foldlM step s=some s' →
   Calls Try.prog 68 #[.int .i64 f, .slice Al l.length cl, .pointer (some ⟨p0,0,none⟩), .pointer (some ⟨p1,0,none⟩), .pointer (some ⟨p2,0,none⟩), .pointer (some ⟨p3,0,none⟩)] w (CbPost B Inv s' O w):=by
 intro d;induction d using Nat.strongRecOn with
 | ind d ih =>
 intro f s s' O w Al cl l hd hf hB hinv hfr hl hlc hbig hfold;have HD:=am' hd
 have HBG:=am' hbig
 have IH:=am' ih
 have HINV:=am' hinv
 have HFR:=am' hfr
 have HL:=am' hl
 have HFO:=am' hfold
 have HBB:=am' (Below.refl B w)
 clear ih hinv hfr hl hfold hd hbig;have hinfo:=am' (show (Try.prog.info? 3).map (fun i=>(i.zero,i.size,i.bytes))=some (some (.int .i64 0),1,8) by kernel_rfl)
 go_enter Try.func68,Try.ntmps68
 go_wp2
 go_loopg [8] (people.length - f) (fun gg v8 wr=>∃ (i:Nat) (s1:σ) (O1:Nat→Prop),v8 = .int .i64 i∧i≤people.length∧f≤i∧people.length - i≤gg∧Aside0 ((grpsF most (people.drop i) l).foldlM step s1=some s')∧Aside0 (Inv s1 wr O1)∧Aside0 (GFr wr O1 g lb people most A c p0 p1 p2 p3)∧Aside0 (Kd.F (Kd.int .i64) wr (fun k=>¬ O1 k) Al l.length l)∧Aside0 (Below B w wr)∧Aside0 (Kept w wr O)∧Aside0 (∀ k,O1 k→O k∨w.heap.size≤k))
 case atStart=>exact ⟨f,s,O,rfl,hf,Nat.le_refl _,Nat.le_refl _,HFO,HINV,HFR,HL,HBB,⟨Kept.refl _ _⟩,⟨fun _ h => .inl h⟩⟩
 case round =>
  obtain ⟨i,s1,O1,rfl,hi,hfi,hg,HF1,HI1,HG1,HL1,HB1,HK1,HO1⟩:=hrel;have x0:wr.cell? ⟨p0,0,none⟩=some (.slice A people.length c):=(bc' HG1.out.h0 0).trans rfl;have x1:wr.cell? ⟨p1,0,none⟩=some (.int .i64 most):=(bc' HG1.out.h1 0).trans rfl;have x2:wr.cell? ⟨p2,0,none⟩=some (.func (.func g) #[] lb):=(bc' HG1.out.h2 0).trans rfl;have x3:wr.cell? ⟨p3,0,none⟩=some (.func (.func 68) #[] #[.pointer (some ⟨p0,0,none⟩), .pointer (some ⟨p1,0,none⟩), .pointer (some ⟨p2,0,none⟩), .pointer (some ⟨p3,0,none⟩)]):=(bc' HG1.out.h3 0).trans rfl;by_cases hlt:i < people.length
  ·
   by_cases hm:(l.length:Int) < most
   ·
    have hltz:(i:Int) < (people.length:Int):=by omega
    have hdz:=dt' hltz;have hdm:=dt' hm;obtain ⟨ad,e0,hx0⟩:=Kd.at_int (Kd.F_now HG1.out.hF) (i:Int) (by omega) hltz;cases e0;rw[Int.toNat_natCast] at hx0;generalize hxx:rd people i=x at hx0
    have HX:=am' hxx;clear hxx;have HCL:=am' (show slices_Clone_int_int.f l=some l from if_pos (by have:=HBG.out;omega));have HHB:=am' (Below.refl wr.heap.size wr);go_wp2_with fail
    go_region_held3? (fun w'=>w'.cell? ⟨p0,0,none⟩=some (.slice (some ad) people.length c)∧w'.cell? (ad.add i)=some (.int .i64 x))
     (first|exact ⟨z0,z1⟩|exact ⟨y0,y1⟩|go_keep)
     (first|((refine Kd.R_append_rows_step (Kd.int .i64) (w0:=wr) wr.heap.size (by rfl) (.tmp 24) (.tmp 29) 22 3 (.int .i64 0) 8 (by rfl) Try.underlying22 hinfo.out rfl (by decide) (by omega) vc l [x] (some ⟨_,0,none⟩) 1 1 (fun _=>True) (fun _=>False) (by rfl) (by rfl) ?aO ?aR (fun _ _ h=>h) (fun _ h=>h.elim) (fun _ _=>trivial) ?aB ?aS ?aL ?_;(case aR=>first|exact C_one (heap_alloc_new _ _)|exact C_one ((HB2.out.block _ (by simp)).trans (heap_alloc_new _ _)));(case aO=>(with_reducible repeat (first|apply ra'|apply rn'|apply rw'));exact HO2.out);(case aB=>repeat (first|(with_reducible first|exact HHB2.out|apply ba'|apply bd'|apply be')|exact HHB2.out));(case aS=>exact bz' (by repeat (first|(with_reducible first|exact HHB2.out|apply ba'|apply bd'|apply be')|exact HHB2.out)));(case aL=>have:=HBG.out;omega);intro v3 w3 ho hb hg hat;have HO3:=am' ho;have HB3:=am' hb;clear ho hb hg hat;have z0:=(HB3.out.cell (bl' wr _ x0)).trans x0;have z1:=(HB3.out.cell (bl' wr _ hx0)).trans hx0))|((go_at_call 69;refine (slices_Clone_int_int.calls Al cl l l _ ?_ hlc HCL.out).mono ?_;(repeat (first|exact Kd.F_now HL1.out|refine ca' ?_ _|refine cd' ?_|refine cn' ?_ _));rintro e w2 ⟨vc,rfl,ho,hb⟩;have HHB2:=am' (bt' (by repeat (first|(with_reducible first|exact HHB.out|apply ba'|apply bd'|apply be')|exact HHB.out)) hb);have HO2:=am' (Kd.R_lower ho (bz' (by repeat (first|(with_reducible first|exact HHB.out|apply ba'|apply bd'|apply be')|exact HHB.out))));have HB2:=am' hb;clear hb ho;have y0:=(HHB2.out.cell (bl' wr _ x0)).trans x0;have y1:=(HHB2.out.cell (bl' wr _ hx0)).trans hx0)))
    all_goals
     have HB1':=am' (HB1.out.trans (HB3.out.mono (Nat.le_trans hB HB1.out.size)));have HG3:=am' (HG1.out.kept (O':=O1) (Kept.of_below HB3.out O1) (fun _ h => .inl h));have HL3:=am' (F_turn (O':=O1) HL1.out (Kept.of_below HB3.out O1) (fun _ h => .inl h));obtain ⟨A3,c3,hv3,hlc3,hC3⟩:=Kd.R_reads HO3.out;have HF3:=am' (show Kd.F (Kd.int .i64) w3 (fun k=>¬ O1 k) A3 (l ++ [x]).length (l ++ [x]) from Kd.F_mono (Kd.R_F (Kd.R_bound (hv3 ▸ HO3.out))) (fun k q h=>by have:=HI _ _ _ HI1.out k h;have:=q.2.1;omega));have HK3:=am' (HK1.out.then_ (Kept.of_below HB3.out O1) HO1.out)
     have hdrop:people.drop i=x :: people.drop (i+1):=by
      rw[List.drop_eq_getElem_cons hlt];congr 1
      rw[← HX.out];simp[rd,List.getD_eq_getElem?_getD,List.getElem?_eq_getElem hlt]
     have hf1:=HF1.out;rw[hdrop,grpsF,if_pos hm,List.foldlM_cons] at hf1;obtain ⟨s2,hs2,hf1⟩:=Option.bind_eq_some_iff.mp hf1;rw[List.foldlM_append] at hf1;obtain ⟨s3,hs3,hf1⟩:=Option.bind_eq_some_iff.mp hf1;have HE2:=am' (HE s1 s2 O1 wr w3 v3 (l ++ [x]) HI1.out HB3.out HO3.out hs2);have HS3:=am' hs3;have HF2:=am' hf1;have HLC3:=am' hlc3;have HN3:=am' (show (l ++ [x]).length=l.length+1 by simp);clear hC3;generalize l ++ [x]=l2 at HO3 HF3 HE2 HS3 HLC3 HN3 hv3 hs2 hs3 hlc3
     subst hv3;clear HB3 HG1 HL1 HK1 HB1 hdrop hs2 hs3 hf1 hlc3;have e2:w3.cell? ⟨p2,0,none⟩=some (.func (.func g) #[] lb):=(bc' HG3.out.h2 0).trans rfl;go_wp2_with fail;refine HE2.out.mono ?_
     rintro e w4 ⟨rfl,hb4,O2,hi4,hk4,ho4⟩
     have HG4:=am' (HG3.out.kept hk4 ho4);have HL4:=am' (F_turn HL3.out hk4 ho4);have HF4:=am' (F_turn HF3.out hk4 ho4);have HK4:=am' (HK3.out.then_ hk4 HO1.out);have HI4:=am' hi4;have HB4:=am' (HB1'.out.trans hb4)
     have HO4:=am' (show ∀ k,O2 k→O k∨w.heap.size≤k from fun k h=>by
      rcases ho4 k h with q|q
      ·
       exact HO1.out k q
      ·
       have:=HK3.out.1;exact .inr (by omega))
     have hrec:=IH.out (people.length - (i+1)) (by have:=HD.out;omega) (i+1) s2 s3 O2 w4 A3 c3 l2 (Nat.le_refl _) (by omega) (Nat.le_trans hB HB4.out.size) hi4 HG4.out HF4.out HLC3.out (by have:=HBG.out;have:=HN3.out;omega) HS3.out;rw[show ((i+1:Nat):Int)=(i:Int)+1 from rfl] at hrec;have HREC:=am' hrec;clear hrec hb4 hi4 hk4 ho4 HE2 HG3 HL3 HF3 HK3 HB1' e2 x0 x1 x2 x3 hx0;have e3:w4.cell? ⟨p3,0,none⟩=some (.func (.func 68) #[] #[.pointer (some ⟨p0,0,none⟩), .pointer (some ⟨p1,0,none⟩), .pointer (some ⟨p2,0,none⟩), .pointer (some ⟨p3,0,none⟩)]):=(bc' HG4.out.h3 0).trans rfl;go_wp2_with (go_at_call 68;refine HREC.out.mono ?_;rintro e w5 ⟨rfl,hb5,O3,hi5,hk5,ho5⟩);go_roundg (people.length - (i+1))
     case measure=>omega
     case rel =>
      refine ⟨i+1,s3,O3,by go_num,by omega,by omega,Nat.le_refl _,HF2,⟨hi5⟩,⟨HG4.out.kept hk5 ho5⟩,⟨F_turn HL4.out hk5 ho5⟩,⟨HB4.out.trans hb5⟩,⟨HK4.out.then_ hk5 HO4.out⟩,⟨fun k h=>?_⟩⟩;rcases ho5 k h with q|q
      ·
       exact HO4.out k q
      ·
       have:=HK4.out.1;exact .inr (by omega)
   ·
    have hdm:=df' hm;have hltz:(i:Int) < (people.length:Int):=by omega
    have hdz:=dt' hltz;go_wp2;go_end0
    refine ⟨rfl,HB1.out,O1,?_,HK1.out,HO1.out⟩;have hf1:=HF1.out;rw[List.drop_eq_getElem_cons hlt,grpsF,if_neg (by omega)] at hf1;cases hf1;exact HI1.out
  ·
   have hnl:¬ (i:Int) < (people.length:Int):=by omega
   have hdz:=df' hnl;go_wp2;go_end0
   refine ⟨rfl,HB1.out,O1,?_,HK1.out,HO1.out⟩;have hf1:=HF1.out;rw[List.drop_eq_nil_of_le (by omega),grpsF] at hf1;cases hf1;exact HI1.out
set_option maxHeartbeats 2000000 in
set_option maxRecDepth 100000 in
theorem groups_any (HE:EachOk B g lb Inv step) (HI:∀ s W O,Inv s W O→∀ k,O k→B≤k∧k < W.heap.size) (eg:∀ args w,(callFunc g args).run Try.prog w = .ok (.enter g args) w)
  (people:List Int) (most:Int) (A:Option Addr) (c:Nat) (hpc:people.length≤c) (hpl:people.length≤1048576) (s s':σ) (O:Nat→Prop) (w:World) (hB:B≤w.heap.size) (hinv:∀ W,Below w.heap.size w W→Inv s W O) (hpe:Kd.F (Kd.int .i64) w (fun k=>¬ O k) A people.length people)
  (hfold:(grpsF most people []).foldlM step s=some s') :
  Calls Try.prog 54 #[.slice A people.length c, .int .i64 most, .func (.func g) #[] lb] w (CbPost B Inv s' O w):=by
 have HINV:=am' hinv
 have HPE:=am' hpe
 have HFO:=am' hfold
 clear hinv hpe hfold;have ho:∀ k,O k→k < w.heap.size:=fun k h=>(HI _ _ _ (HINV.out w (Below.refl _ _)) k h).2
 have HO:=am' ho
 clear ho;go_enter Try.func54,Try.ntmps54
 go_wp2_with fail
 obtain ⟨b0,b1,b2,b3,hb4⟩:=four_blocks w (.cells #[.slice A people.length c] 22) (.cells #[.int .i64 most] 3) (.cells #[.func (.func g) #[] lb] 85) (.cells #[.func (.func 68) #[] #[.pointer (some ⟨w.heap.size,0,none⟩), .pointer (some ⟨w.heap.size+1,0,none⟩), .pointer (some ⟨w.heap.size+1+1,0,none⟩), .pointer (some ⟨w.heap.size+1+1+1,0,none⟩)]] 94)
 have hpe4:=Kd.F_below HPE.out hb4
 have hin4:=HINV.out _ hb4
 generalize (((w.alloc (.cells #[.slice A people.length c] 22)).alloc (.cells #[.int .i64 most] 3)).alloc (.cells #[.func (.func g) #[] lb] 85)).alloc (.cells #[.func (.func 68) #[] #[.pointer (some ⟨w.heap.size,0,none⟩), .pointer (some ⟨w.heap.size+1,0,none⟩), .pointer (some ⟨w.heap.size+1+1,0,none⟩), .pointer (some ⟨w.heap.size+1+1+1,0,none⟩)]] 94)=W4 at *
 have hsz:=hb4.size
 have hcall:=on_any HE HI eg people most A c (w.heap.size) (w.heap.size+1) (w.heap.size+1+1) (w.heap.size+1+1+1) hpc hpl people.length 0 s s' O W4 none 0 [] (by omega) (by omega) (by omega) hin4
  ⟨b0,b1,b2,b3,fun h=>by have:=HO.out _ h;omega,fun h=>by have:=HO.out _ h;omega,fun h=>by have:=HO.out _ h;omega,fun h=>by have:=HO.out _ h;omega,hpe4⟩ (Kd.F_nil _ _ _) (Nat.le_refl _) (by simp;omega) HFO.out
 rw[show ((0:Nat):Int)=0 from rfl,show ([]:List Int).length=0 from rfl] at hcall
 refine hcall.mono ?_
 rintro e w5 ⟨rfl,hb5,O3,hi5,hk5,ho5⟩
 go_wp2
 go_end0
 refine ⟨rfl,(hb4.mono hB).trans hb5,O3,hi5,(Kept.of_below hb4 O).then_ hk5 (fun k h => .inl h),fun k h=>?_⟩
 rcases ho5 k h with q|q
 ·
  exact .inl q
 ·
  exact .inr (by omega)
end
def OutInv (B bo:Nat) (s:List (List Int)) (W:World) (O:Nat→Prop):Prop :=
 ∃ v,W.heap[bo]? = some (.cells #[v] 68 (0,0))∧B≤bo∧Kd.S (Kd.slice 3 (Kd.int .i64)) 22 W B (fun k=>k≠bo) v s∧O=(fun k=>k=bo∨some k=v.ownBlock)
theorem OutInv.lt {B bo:Nat} (s:List (List Int)) (W:World) (O:Nat→Prop) (h:OutInv B bo s W O):∀ k,O k→B≤k∧k < W.heap.size:=by
 obtain ⟨v,hb,hB,hS,rfl⟩:=h
 rintro k (rfl|hk)
 ·
  exact ⟨hB,blk_lt hb⟩
 ·
  exact ⟨Kd.S_base hS k hk.symm,Kd.S_lt hS k hk.symm⟩
theorem OutInv.below {B bo:Nat} {s:List (List Int)} {W W1:World} {O:Nat→Prop} (h:OutInv B bo s W O) (hb:Below W.heap.size W W1):OutInv B bo s W1 O:=by
 obtain ⟨v,h1,h2,h3,h4⟩:=h
 exact ⟨v,bb' h1 hb,h2,Kd.S_below h3 hb,h4⟩
theorem grpsF_len (m:Int):∀ (r l:List Int),(grpsF m r l).length+1≤2 ^ r.length:=by
 intro r;induction r with
 | nil=>intro l;simp[grpsF]
 | cons x r ih =>
  intro l;simp only[grpsF];split
  ·
   have h1:=ih (l ++ [x]);have h2:=ih l;simp only[List.length_cons,List.length_append,Nat.pow_succ];omega
  ·
   have:0 < 2 ^ (x :: r).length:=Nat.pow_pos (by omega);simp only[List.length_nil];omega
end Go.Proofs.Ytihieplobgehaaa.C2
