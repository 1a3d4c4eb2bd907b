import Derived.Test.YtmfofjloklafoaaC5zx0
import Derived.Test.YtmfofjloklafoaaC5zAl
namespace Go.Proofs.Ytmfofjloklafoaa.C5
open Go.RowKit Go.Proofs.YtmfofjloklafoaaW.PrintWords Go.Proofs.YtmfofjloklafoaaW.PrintLast Go.Proofs.YtmfofjloklafoaaW.PrintMore Go.Proofs.Ytmfofjloklafoaa.H
attribute [local go_sem] max2_int min2_int max_two min_two max_three min_three max_four min_four
set_option linter.unusedVariables false
set_option linter.unusedSimpArgs false
def impl_stateOf.l0:Nat→Int→Int→Int→List Bool→Bool→Option (List Bool × Bool)
 | 0,_,_,_,_,_=>none
 | k+1,x1,x17,x18,x399000,x399001=>if x18 < x17 then (if 0≤x18 then (if x18 < (x399000.length:Int) then (impl_stateOf.l0 k x1 x17 (wrap64 (x18+1)) (x399000.set (x18:Int).toNat ((Go.bits .and .i64 (shr .i64 x1 x18) 1) == 1)) x399001) else (none)) else (none)) else (some (x399000,x399001))
def impl_stateOf.f (k:Nat) (a0:Int) (a1:Int):Option (List Bool × Bool):=if 0≤a0 then (if (a0:Int).toNat≤281474976710656 then ((some (List.replicate (a0:Int).toNat false:List Bool)).bind fun y395=>(impl_stateOf.l0 k a1 (y395.length:Int) 0 y395 ((Go.bits .and .i64 (shr .i64 a1 a0) 1) == 1))) else (none)) else (none)
theorem impl_stateOf.mono_l:∀ k,(∀ y0 y1 y2 y3 y4,LeO (impl_stateOf.l0 k y0 y1 y2 y3 y4) (impl_stateOf.l0 (k+1) y0 y1 y2 y3 y4))
 | 0=>fun _ _ _ _ _ r h=>by simp[impl_stateOf.l0] at h
 | k+1=>by
  have ih0:=impl_stateOf.mono_l k
  ·
   intro y0 y1 y2 y3 y4;unfold impl_stateOf.l0
   repeat' first
   | (with_reducible exact ih0 _ _ _ _ _)
   | (with_reducible exact LeO.refl _)
   | (with_reducible exact LeO.none _)
   | (with_reducible refine LeO.ite ?_ ?_)
   | (with_reducible refine LeO.bind ?_ (fun _=>?_))
   | exact ih0 _ _ _ _ _
   | exact LeO.none _
   | refine LeO.ite ?_ ?_
   | refine LeO.bind ?_ (fun _=>?_)
theorem impl_stateOf.mono:∀ a0 a1 k,LeO (impl_stateOf.f k a0 a1) (impl_stateOf.f (k+1) a0 a1):=by
 intro a0 a1 k;have ih0:=impl_stateOf.mono_l k
 unfold impl_stateOf.f
 repeat' first
   | (with_reducible exact ih0 _ _ _ _ _)
   | (with_reducible exact LeO.refl _)
   | (with_reducible exact LeO.none _)
   | (with_reducible refine LeO.ite ?_ ?_)
   | (with_reducible refine LeO.bind ?_ (fun _=>?_))
   | exact ih0 _ _ _ _ _
   | exact LeO.none _
   | refine LeO.ite ?_ ?_
   | refine LeO.bind ?_ (fun _=>?_)
def impl_stateOf.T1:Bool × List (List Nat × List Nat):=(true,[([],[]),([0,0],[0]),([],[]),([],[]),([2,3],[2,3]),([4],[4]),([5],[5]),([1,6],[1,6]),([],[]),([8,7,0,1,2,3,4,5,6,7,8],[7,8])])
def impl_stateOf.B1:List Nat:=[0,1,0,0,12,28,60,127,0,511]
theorem impl_stateOf.tab1:rtab .any (opsOf Try.f115 1)=impl_stateOf.T1:=by kernel_rfl
theorem impl_stateOf.bits1:waitsOk impl_stateOf.T1.2 impl_stateOf.B1=true:=by kernel_rfl
def impl_stateOf.T5:Bool × List (List Nat × List Nat):=(true,[([],[]),([0],[0]),([],[]),([],[]),([],[]),([3,4],[3,4]),([5],[5]),([6],[6]),([1,2,0,1,2,3,4,5,6,7],[1,2]),([8,7,0,1,2,3,4,5,6,7],[7,8])])
def impl_stateOf.B5:List Nat:=[0,1,0,0,0,24,56,120,255,511]
theorem impl_stateOf.tab5:rtab .any (opsOf Try.f115 5)=impl_stateOf.T5:=by kernel_rfl
theorem impl_stateOf.bits5:waitsOk impl_stateOf.T5.2 impl_stateOf.B5=true:=by kernel_rfl
set_option maxHeartbeats 8000000 in
set_option maxRecDepth 100000 in
theorem impl_stateOf.calls (k:Nat) (a0:Int) (a1:Int) (r1:List Bool) (r2:Bool) (w:World) (h:impl_stateOf.f k a0 a1=some (r1,r2)) :
  Calls Try.prog 115 #[.int .i64 a0, .int .i64 a1] w fun e w'=>∃ v0_:Value,e = .returned (.agg #[v0_, .bool r2])∧Kd.R Kd.bool 4 w' w.heap.size (fun _=>True) v0_ r1∧Below w.heap.size w w':=by
 have hu73:=Try.underlying73
 have HB:=am' (Below.refl w.heap.size w)
 have H:(if 0≤a0 then (if (a0:Int).toNat≤281474976710656 then ((some (List.replicate (a0:Int).toNat false:List Bool)).bind fun y395=>(impl_stateOf.l0 k a1 (y395.length:Int) 0 y395 ((Go.bits .and .i64 (shr .i64 a1 a0) 1) == 1))) else (none)) else (none))=some (r1,r2):=h
 clear h;by_cases c3:0≤a0
 ·
  rw[if_pos c3] at H;have c3b0:=eq_true c3;have c3b1:decide (0≤a0)=true:=dt' c3;clear c3;by_cases c4:(a0:Int).toNat≤281474976710656
  ·
   rw[if_pos c4] at H;have c4b0:=eq_true c4;have c4b1:decide ((a0:Int).toNat≤281474976710656)=true:=dt' c4;clear c4;obtain ⟨y395,hy395⟩:∃ y_:List Bool,y_=(List.replicate (a0:Int).toNat false):=⟨_,rfl⟩
   replace H:(impl_stateOf.l0 k a1 (y395.length:Int) 0 y395 ((Go.bits .and .i64 (shr .i64 a1 a0) 1) == 1))=some (r1,r2):=by first|(rw[hy395];with_reducible exact H)|(have H2_:=(Option.bind_some _ _).symm.trans H;rw[hy395];with_reducible exact H2_)|(have H2_:=(Option.bind_some _ _).symm.trans H;with_reducible exact H2_)|with_reducible exact H|(rw[hy395];exact H)|exact H
   have Ny395:=am' hy395;clear hy395;have c5b0:=eq_true (od' xa':0≤a0);obtain ⟨ji6,hji6⟩:∃ j_:Int,(shr .i64 a1 a0)=j_:=⟨_,rfl⟩
   replace H:(impl_stateOf.l0 k a1 (y395.length:Int) 0 y395 ((Go.bits .and .i64 (ji6) 1) == 1))=some (r1,r2):=by first|(rw[hji6] at H;exact H)|(simp only[hji6] at H ⊢;exact H)
   have hji6_:(a1 / 2 ^ min a0.toNat 64)=ji6:=hji6;have hji6z:a0≤64→(a1 / 2 ^ a0.toNat)=ji6:=shr_small hji6;have H':=am' H;clear H;go_enter Try.func115,Try.ntmps115
   try go_wp2_with (first|((with_reducible refine gate_dst (N:=4) rfl ?_);refine box_event ?hg (N:=4) ?hd (cs:=#[.slice none 0 0, .bool false]) (t:=73) ?hr ?_;(case hd=>rfl);(case hg=>rfl);(case hr=>first|(go_simp;done)|(go_simp;rfl));intro gb394 hg w7 hbox hb;have n0_:=am' (bt' xb' hb);have n1_:=am' (hbox);have n2_:=am' ((by rw[hg];exact (bz' xb'):w.heap.size≤gb394));have n3_:=am' ((by rw[hg];exact (bz' xb'):w.heap.size≤gb394));clear HB;have HB:=n0_;have BK394:=n1_;have GW394:=n2_;have GE394:=n3_;clear n0_ n1_ n2_ n3_;clear hb hbox hg))
   have n0_:=am' (kd' BK394.out);have n1_:=am' (be' HB.out);clear BK394;clear HB;have BK394:=n0_;have HB:=n1_;clear n0_ n1_;refine start_ (n:=10) (S:=fun w'=>True) (ds:=[]) #[false,false,false,false,false,false,false,false,false,false] xk' rfl rfl trivial (fun hHeld=>?_);refine with_tabW impl_stateOf.tab1 impl_stateOf.bits1 (fun HT_ HW_=>?_);generalize w7.drew=w8 at BK394 HB hHeld ⊢
   refine pure_ (i:=0) (N:=some 7) (v:=?_) (a':=?_) #[true,false,false,false,false,false,false,false,false,false] rfl rfl (any_of HT_.out xk') (fun _ _ _ h=>h) (Or.inl ⟨by rfl,?_⟩) ?_ ?_
   rotate_left
   ·
    intro w';go_simp;with_reducible rfl
   rotate_left
   ·
    simp only[Act.put,sa',sb',sc',i64_w,i32_w];rfl
   refine pure_ (i:=2) (N:=some 9) (v:=?_) (a':=?_) #[true,false,true,false,false,false,false,false,false,false] rfl rfl (any_of HT_.out xk') (fun _ _ _ h=>h) (Or.inl ⟨by rfl,?_⟩) ?_ ?_
   rotate_left
   ·
    intro w';go_simp;with_reducible rfl
   rotate_left
   ·
    simp only[Act.put,sa',sb',sc',i64_w,i32_w];rfl
   refine pure_ (i:=3) (N:=some 10) (v:=?_) (a':=?_) #[true,false,true,true,false,false,false,false,false,false] rfl rfl (any_of HT_.out xk') (fun _ _ _ h=>h) (Or.inl ⟨by rfl,?_⟩) ?_ ?_
   rotate_left
   ·
    intro w';go_simp;with_reducible rfl
   rotate_left
   ·
    simp only[Act.put,sa',sb',sc',i64_w,i32_w];rfl
   refine pure_ (i:=4) (N:=some 11) (v:=?_) (a':=?_) #[true,false,true,true,true,false,false,false,false,false] rfl rfl (any_of HT_.out xk') (fun _ _ _ h=>h) (Or.inl ⟨by rfl,?_⟩) ?_ ?_
   rotate_left
   ·
    intro w';go_simp;with_reducible rfl
   rotate_left
   ·
    simp only[Act.put,sa',sb',sc',i64_w,i32_w];rfl
   refine pure_ (i:=5) (N:=some 12) (v:=?_) (a':=?_) #[true,false,true,true,true,true,false,false,false,false] rfl rfl (any_of HT_.out xk') (fun _ _ _ h=>h) (Or.inl ⟨by rfl,?_⟩) ?_ ?_
   rotate_left
   ·
    intro w';go_simp;with_reducible rfl
   rotate_left
   ·
    simp only[Act.put,sa',sb',sc',i64_w,i32_w];rfl
   refine pure_ (i:=6) (N:=some 13) (v:=?_) (a':=?_) #[true,false,true,true,true,true,true,false,false,false] rfl rfl (any_of HT_.out xk') (fun _ _ _ h=>h) (Or.inl ⟨by rfl,?_⟩) ?_ ?_
   rotate_left
   ·
    intro w';go_simp;with_reducible rfl
   rotate_left
   ·
    simp only[Act.put,sa',sb',sc',i64_w,i32_w];rfl
   refine join_ (σ:=Value × Nat) 1 #[true,true,true,true,true,true,true,true,true,false] (fun s_=>[(8,s_.1),(5, .pointer (some ⟨s_.2,0,none⟩)),(14, .agg #[s_.1, .bool ((Go.bits .and .i64 (ji6) 1) == 1)])]) (fun s_ w'=>(Kd.R Kd.bool 4 w' w.heap.size (fun _=>True) s_.1 y395)∧(w'.heap[gb394]? = some (.cells #[.slice none 0 0, .bool false] 73 (0,0)))∧(w'.heap[s_.2]? = some (.cells #[.slice none 0 0, .bool false] 73 (0,0)))∧(w.heap.size≤s_.2)∧(w.heap.size≤s_.2)∧(gb394≠s_.2)∧(s_.2≠gb394)∧(Below w.heap.size w w')) ?_ ?_
   rotate_left
   ·
    intro hCont;refine two_ (i:=1) (j:=8) (Ni:=some 8) (Nj:=some 5) #[true,true,true,true,true,true,true,false,false,false] #[true,false,true,true,true,true,true,false,true,false] rfl rfl rfl rfl (two_of HT_.out xk') (by decide) (by decide) (fun K hK=>?_) (fun K hK=>?_)
    ·
     skip
     refine Kd.R_make_step Kd.bool _ 4 (by rfl) (N:=8) rfl 25 _ _ rfl a0 rfl rfl Try.underlying25 (.bool false) 1 info4 rfl (by decide) (by omega) false (ok:=fun _=>True) (okp:=fun _=>True) rfl (fun _ hk=>hk) trivial (od' xa') (Nat.le_trans (Nat.mul_le_mul_right _ (od' xa':a0.toNat≤281474976710656)) (by omega)) (Below.refl _ _) (Nat.le_refl _) ?_
     intro v396 w9 ho10 hb hg_ hnew_;clear hg_ hnew_;(first|rw[← Ny395.out] at ho10|(simp only[Int.reduceToNat] at ho10;rw[← Ny395.out] at ho10))
     have n0_:=am' (Kd.R_lower ho10 (bz' (yb' GE394.out)));have n1_:=am' (bb' (g:=gb394) (o := .cells #[.slice none 0 0, .bool false] 73 (0,0)) (kk' BK394.out) hb);have n2_:=am' (bt' (yb' GE394.out) hb);clear BK394;clear HB;have HO397:=n0_;have BK394:=n1_;have HB:=n2_;clear n0_ n1_ n2_;clear hb ho10;obtain ⟨Ao11,co11,eo11⟩:=Kd.R_slice HO397.out
     (first|subst eo11|(injection eo11 with f1_ f2_ f3_;have f4_:=f1_.symm;have f5_:=f3_.symm;clear f1_ f2_ f3_;subst f4_;subst f5_))
     refine hK.out _ _ trivial (fun hHeld=>?_);clear hK K;refine norm_ (a':=?_) ?_ ?_
     rotate_left
     ·
      show Act.put _ (some 8) _=_
      simp only[Act.put,sa',sb',sc',i64_w,i32_w];rfl
     refine pure_ (i:=7) (N:=some 14) (v:=?_) (a':=?_) #[true,true,true,true,true,true,true,true,false,false] rfl rfl (any_of HT_.out xk') (fun _ _ _ h=>h) (Or.inl ⟨by rfl,?_⟩) ?_ ?_
     rotate_left
     ·
      intro w';go_simp;with_reducible rfl
     rotate_left
     ·
      simp only[Act.put,sa',sb',sc',i64_w,i32_w];rfl
     refine one_ (i:=8) (N:=some 5) #[true,true,true,true,true,true,true,true,true,false] rfl rfl (one_of HT_.out xk') (by decide) (fun K hK=>?_);refine box_step ?hg (N:=5) ?hd (cs:=#[.slice none 0 0, .bool false]) (t:=73) ?hr ?_;(case hd=>rfl);(case hg=>rfl);(case hr=>first|(go_simp;done)|(go_simp;rfl))
     intro gb398 hg w12 hbox hb;have n0_:=am' (rb' (kr' HO397.out) hb);have n1_:=am' (bb' (g:=gb394) (o := .cells #[.slice none 0 0, .bool false] 73 (0,0)) (kk' BK394.out) hb);have n2_:=am' (bt' (yb' GE394.out) hb);have n3_:=am' (hbox);have n4_:=am' ((by rw[hg];exact (bz' (yb' GE394.out)):w.heap.size≤gb398));have n5_:=am' ((by rw[hg];exact (bz' (yb' GE394.out)):w.heap.size≤gb398));have n6_:=am' ((by rw[hg];exact Nat.ne_of_lt (blk_lt (g:=gb394) (o := .cells #[.slice none 0 0, .bool false] 73 (0,0)) (kk' BK394.out)):gb394≠gb398));have n7_:=am' ((by rw[hg];exact Nat.ne_of_gt (blk_lt (g:=gb394) (o := .cells #[.slice none 0 0, .bool false] 73 (0,0)) (kk' BK394.out)):gb398≠gb394));clear HO397;clear BK394;clear HB;have HO397:=n0_;have BK394:=n1_;have HB:=n2_;have BK398:=n3_;have GW398:=n4_;have GE398:=n5_;have NB394_398:=n6_;have NB398_394:=n7_;clear n0_ n1_ n2_ n3_ n4_ n5_ n6_ n7_;clear hb hbox hg;refine hK.out _ _ trivial (fun hHeld=>?_);clear hK K;refine norm_ (a':=?_) ?_ ?_
     rotate_left
     ·
      show Act.put _ (some 5) _=_
      simp only[Act.put,sa',sb',sc',i64_w,i32_w];rfl
     exact norm_ (by simp only[putAll,Act.put,sa',sb',sc']) (hCont (.slice Ao11 y395.length co11,gb398) _ ⟨(kr' HO397.out),(kk' BK394.out),(kk' BK398.out),GW398.out,GE398.out,NB394_398.out,NB398_394.out,(y2' GE394.out GE398.out)⟩)
    ·
     skip
     refine box_step ?hg (N:=5) ?hd (cs:=#[.slice none 0 0, .bool false]) (t:=73) ?hr ?_;(case hd=>rfl);(case hg=>rfl);(case hr=>first|(go_simp;done)|(go_simp;rfl))
     intro gb398 hg w9 hbox hb;have n0_:=am' (bb' (g:=gb394) (o := .cells #[.slice none 0 0, .bool false] 73 (0,0)) (kk' BK394.out) hb);have n1_:=am' (bt' (yb' GE394.out) hb);have n2_:=am' (hbox);have n3_:=am' ((by rw[hg];exact (bz' (yb' GE394.out)):w.heap.size≤gb398));have n4_:=am' ((by rw[hg];exact (bz' (yb' GE394.out)):w.heap.size≤gb398));have n5_:=am' ((by rw[hg];exact Nat.ne_of_lt (blk_lt (g:=gb394) (o := .cells #[.slice none 0 0, .bool false] 73 (0,0)) (kk' BK394.out)):gb394≠gb398));have n6_:=am' ((by rw[hg];exact Nat.ne_of_gt (blk_lt (g:=gb394) (o := .cells #[.slice none 0 0, .bool false] 73 (0,0)) (kk' BK394.out)):gb398≠gb394));clear BK394;clear HB;have BK394:=n0_;have HB:=n1_;have BK398:=n2_;have GW398:=n3_;have GE398:=n4_;have NB394_398:=n5_;have NB398_394:=n6_;clear n0_ n1_ n2_ n3_ n4_ n5_ n6_;clear hb hbox hg;refine hK.out _ _ trivial (fun hHeld=>?_);clear hK K;refine norm_ (a':=?_) ?_ ?_
     rotate_left
     ·
      show Act.put _ (some 5) _=_
      simp only[Act.put,sa',sb',sc',i64_w,i32_w];rfl
     refine one_ (i:=1) (N:=some 8) #[true,true,true,true,true,true,true,false,true,false] rfl rfl (one_of HT_.out xk') (by decide) (fun K hK=>?_);refine Kd.R_make_step Kd.bool _ 4 (by rfl) (N:=8) rfl 25 _ _ rfl a0 rfl rfl Try.underlying25 (.bool false) 1 info4 rfl (by decide) (by omega) false (ok:=fun _=>True) (okp:=fun _=>True) rfl (fun _ hk=>hk) trivial (od' xa') (Nat.le_trans (Nat.mul_le_mul_right _ (od' xa':a0.toNat≤281474976710656)) (by omega)) (Below.refl _ _) (Nat.le_refl _) ?_
     intro v396 w10 ho11 hb hg_ hnew_;clear hg_ hnew_;(first|rw[← Ny395.out] at ho11|(simp only[Int.reduceToNat] at ho11;rw[← Ny395.out] at ho11))
     have n0_:=am' (Kd.R_lower ho11 (bz' (y2' GE394.out GE398.out)));have n1_:=am' (bb' (g:=gb394) (o := .cells #[.slice none 0 0, .bool false] 73 (0,0)) (kk' BK394.out) hb);have n2_:=am' (bb' (g:=gb398) (o := .cells #[.slice none 0 0, .bool false] 73 (0,0)) (kk' BK398.out) hb);have n3_:=am' (bt' (y2' GE394.out GE398.out) hb);clear BK394;clear BK398;clear HB;have HO397:=n0_;have BK394:=n1_;have BK398:=n2_;have HB:=n3_;clear n0_ n1_ n2_ n3_;clear hb ho11;obtain ⟨Ao12,co12,eo12⟩:=Kd.R_slice HO397.out
     (first|subst eo12|(injection eo12 with f1_ f2_ f3_;have f4_:=f1_.symm;have f5_:=f3_.symm;clear f1_ f2_ f3_;subst f4_;subst f5_))
     refine hK.out _ _ trivial (fun hHeld=>?_);clear hK K;refine norm_ (a':=?_) ?_ ?_
     rotate_left
     ·
      show Act.put _ (some 8) _=_
      simp only[Act.put,sa',sb',sc',i64_w,i32_w];rfl
     refine pure_ (i:=7) (N:=some 14) (v:=?_) (a':=?_) #[true,true,true,true,true,true,true,true,true,false] rfl rfl (any_of HT_.out xk') (fun _ _ _ h=>h) (Or.inl ⟨by rfl,?_⟩) ?_ ?_
     rotate_left
     ·
      intro w';go_simp;with_reducible rfl
     rotate_left
     ·
      simp only[Act.put,sa',sb',sc',i64_w,i32_w];rfl
     exact norm_ (by simp only[putAll,Act.put,sa',sb',sc']) (hCont (.slice Ao12 y395.length co12,gb398) _ ⟨(kr' HO397.out),(kk' BK394.out),(kk' BK398.out),GW398.out,GE398.out,NB394_398.out,NB398_394.out,(y2' GE394.out GE398.out)⟩)
   rintro ⟨v396,gb398⟩ w13 ⟨h0_,h1_,h2_,h3_,h4_,h5_,h6_,h7_⟩
   have n0_:Aside0 (Kd.R Kd.bool 4 w13 w.heap.size (fun _=>True) v396 y395):=⟨h0_⟩
   have n1_:Aside0 (w13.heap[gb394]? = some (.cells #[.slice none 0 0, .bool false] 73 (0,0))):=⟨h1_⟩
   have n2_:Aside0 (w13.heap[gb398]? = some (.cells #[.slice none 0 0, .bool false] 73 (0,0))):=⟨h2_⟩
   have n3_:Aside0 (w.heap.size≤gb398):=⟨h3_⟩
   have n4_:Aside0 (w.heap.size≤gb398):=⟨h4_⟩
   have n5_:Aside0 (gb394≠gb398):=⟨h5_⟩
   have n6_:Aside0 (gb398≠gb394):=⟨h6_⟩
   have n7_:Aside0 (Below w.heap.size w w13):=⟨h7_⟩
   clear BK394;clear HB;clear h0_ h1_ h2_ h3_ h4_ h5_ h6_ h7_;have HO397:=n0_;have BK394:=n1_;have BK398:=n2_;have GW398:=n3_;have GE398:=n4_;have NB394_398:=n5_;have NB398_394:=n6_;have HB:=n7_;clear n0_ n1_ n2_ n3_ n4_ n5_ n6_ n7_;have hHeld:=trivial;obtain ⟨Ao14,co14,eo14⟩:=Kd.R_slice HO397.out
   (first|subst eo14|(injection eo14 with f1_ f2_ f3_;have f4_:=f1_.symm;have f5_:=f3_.symm;clear f1_ f2_ f3_;subst f4_;subst f5_))
   refine norm_ (a':=?_) ?_ ?_
   rotate_left
   ·
    simp only[putAll,Act.put,sa',sb',sc'];rfl
   refine one_ (i:=9) (N:=none) #[true,true,true,true,true,true,true,true,true,true] rfl rfl (one_of HT_.out xk') (by decide) (fun K hK=>?_);have hs15:w13.cell? ⟨gb398,0,none⟩=some (.slice none 0 0):=(bc' BK398.out 0).trans rfl;have hfs15:=bf' BK398.out 0;have hns15_0:=NB394_398.out;have hms15_0:=NB398_394.out;have hs16:w13.cell? ⟨gb398,1,none⟩=some (.bool false):=(bc' BK398.out 1).trans rfl;have hfs16:=bf' BK398.out 1;have hns16_0:=NB394_398.out;have hms16_0:=NB398_394.out;refine skip_ (w1:=?_) (by rfl) rfl ?_ ?_
   rotate_left
   ·
    go_simp;rfl
   refine hK.out _ _ trivial (fun hHeld=>?_);clear hK K;refine done_ (done_of HT_.out xk') ?_
   have hnb17:=NB398_394.out;have hnc17:=NB394_398.out;have hcz18_0:w13.cell? ⟨gb398,0,none⟩=some (.slice none 0 0):=(bc' BK398.out 0).trans rfl;have hcz18_1:w13.cell? ⟨gb398,1,none⟩=some (.bool false):=(bc' BK398.out 1).trans rfl;have hfz18_0:=bf' BK398.out 0;have hfz18_1:=bf' BK398.out 1
   try go_wp2
   go_loopg [18] k (fun kq v18 w'=>∃ (x18_1:Int) (x399000_1:List Bool) (u399000:Value),v18 = .int .i64 x18_1∧Aside0 (impl_stateOf.l0 kq a1 (y395.length:Int) x18_1 x399000_1 ((Go.bits .and .i64 (ji6) 1) == 1)=some (r1,r2))∧Aside0 (kq≤k)∧Aside0 (Kd.R Kd.bool 4 w' w.heap.size (fun _=>True) u399000 x399000_1)∧Aside0 (w'.heap[gb394]? = some (.cells #[(.slice none 0 0), .bool false] 73 (0,0)))∧Aside0 (w'.heap[gb398]? = some (.cells #[u399000, .bool ((Go.bits .and .i64 (ji6) 1) == 1)] 73 (0,0)))∧Aside0 (Below w.heap.size w w'))
   case atStart=>exact ⟨(0),(y395),(.slice Ao14 y395.length co14),xs',H',⟨Nat.le_refl _⟩,⟨by (with_reducible repeat (first|apply ra'|apply rn'|apply rw'));exact Kd.R_mono (Kd.R_far (p:=⟨gb398,1,none⟩) (Kd.R_far (p:=⟨gb398,0,none⟩) (Kd.R_types HO397.out BK398.out (by decide)) (fun _ hk=>hk.2) (.slice Ao14 y395.length co14)) (fun _ hk=>hk.2) (.bool ((Go.bits .and .i64 (ji6) 1) == 1))) (fun _ hk=>trivial)⟩,⟨by (with_reducible repeat (first|refine kn' ?_ _|refine kd' ?_|refine ka' ?_ _));refine blk_far ?_ NB394_398.out _;(with_reducible repeat (first|refine kn' ?_ _|refine kd' ?_|refine ka' ?_ _));refine blk_far ?_ NB394_398.out _;(with_reducible repeat (first|refine kn' ?_ _|refine kd' ?_|refine ka' ?_ _));exact BK394.out⟩,⟨by (with_reducible repeat (first|refine kn' ?_ _|refine kd' ?_|refine ka' ?_ _));refine blk_put (cs:=#[.slice Ao14 y395.length co14, .bool false]) ?_ 1 _ rfl;(with_reducible repeat (first|refine kn' ?_ _|refine kd' ?_|refine ka' ?_ _));refine blk_put (cs:=#[.slice none 0 0, .bool false]) ?_ 0 _ rfl;(with_reducible repeat (first|refine kn' ?_ _|refine kd' ?_|refine ka' ?_ _));exact BK398.out⟩,⟨y2' GE394.out GE398.out⟩⟩
   case round =>
    clear H';try clear c1
    try clear p2
    try clear c3
    try clear c3b0
    try clear c3b1
    try clear c4
    try clear c4b0
    try clear c4b1
    try clear c5
    try clear c5b0
    try clear c11
    try clear c17
    try clear hcz18_0
    try clear hcz18_1
    try clear hfz18_0
    try clear hfz18_1
    obtain ⟨x18_1,x399000_1,u399000,rfl,HA,HK1,HO_399000,BK394,BK398,HB⟩:=hrel;cases gk with
    | zero=>exact absurd HA.out (by simp[impl_stateOf.l0])
    | succ k1 =>
     have H:=HA.out;clear HA;simp only[impl_stateOf.l0] at H;by_cases c19:x18_1 < (y395.length:Int)
     ·
      rw[if_pos c19] at H;have c19b0:decide (x18_1 < (y395.length:Int))=true:=dt' c19;clear c19;by_cases c20:0≤x18_1
      ·
       rw[if_pos c20] at H;have c20b0:=eq_true c20;have c20b1:decide (0≤x18_1)=true:=dt' c20;clear c20;obtain ⟨ji21,hji21⟩:∃ j_:Int,(shr .i64 a1 x18_1)=j_:=⟨_,rfl⟩
       replace H:(if x18_1 < (x399000_1.length:Int) then (impl_stateOf.l0 k1 a1 (y395.length:Int) (wrap64 (x18_1+1)) (x399000_1.set (x18_1:Int).toNat ((Go.bits .and .i64 (ji21) 1) == 1)) ((Go.bits .and .i64 (ji6) 1) == 1)) else (none))=some (r1,r2):=by first|(rw[hji21] at H;exact H)|(simp only[hji21] at H ⊢;exact H)
       have hji21_:(a1 / 2 ^ min x18_1.toNat 64)=ji21:=hji21;have hji21z:x18_1≤64→(a1 / 2 ^ x18_1.toNat)=ji21:=shr_small hji21;by_cases c22:x18_1 < (x399000_1.length:Int)
       ·
        rw[if_pos c22] at H;have c22b0:decide (x18_1 < (x399000_1.length:Int))=true:=dt' c22;clear c22;obtain ⟨y399,hy399⟩:∃ y_:List Bool,y_=(x399000_1.set (x18_1:Int).toNat ((Go.bits .and .i64 (ji21) 1) == 1)):=⟨_,rfl⟩
        replace H:(impl_stateOf.l0 k1 a1 (y395.length:Int) (wrap64 (x18_1+1)) y399 ((Go.bits .and .i64 (ji6) 1) == 1))=some (r1,r2):=by first|(rw[hy399];with_reducible exact H)|(have H2_:=(Option.bind_some _ _).symm.trans H;rw[hy399];with_reducible exact H2_)|(have H2_:=(Option.bind_some _ _).symm.trans H;with_reducible exact H2_)|with_reducible exact H|(rw[hy399];exact H)|exact H
        have Ny399:=am' hy399;clear hy399;have H':=am' H;clear H;try go_wp2
        have n0_:=am' (rw' HO_399000.out);have n1_:=am' (kd' BK394.out);have n2_:=am' (kd' BK398.out);have n3_:=am' (be' HB.out);clear HO_399000;clear BK394;clear BK398;clear HB;have HO_399000:=n0_;have BK394:=n1_;have BK398:=n2_;have HB:=n3_;clear n0_ n1_ n2_ n3_;have p23:0≤(x18_1:Int):=od' xa';have q23:(x18_1:Int) < ((x399000_1.length:Int):Int):=od' xa';obtain ⟨go23,co23,eo23,gb23,gl23,cl23,HG23⟩:=Kd.R_form HO_399000.out (by omega)
        (first|cases eo23|(injection eo23 with ea_ en_ ec_;(first|subst ea_|(injection ea_ with ea_;subst ea_));subst ec_;clear en_))
        have GB23:=am' gb23;have GG23:=am' HG23;clear gb23 gl23 HG23;obtain ⟨hx23_0,hf23_0⟩:=Kd.R_celln false HO_399000.out (x18_1:Int) p23 q23;replace p23:=eq_true p23;replace q23:=eq_true q23;have HP25:=Kd.R_putn HO_399000.out (x18_1:Int) ((Go.bits .and .i64 (ji21) 1) == 1);rw[← Ny399.out] at HP25;have HQ25:=am' HP25;clear HP25;refine start_ (n:=10) (S:=fun w'=>w'.cell? ⟨gb398,0,none⟩=some (.slice (some ⟨go23,0,none⟩) x399000_1.length co23)∧w'.cell? ⟨gb398,1,none⟩=some (.bool ((Go.bits .and .i64 (ji6) 1) == 1))) (ds:=[9]) #[false,false,false,false,false,false,false,false,false,false] xk' rfl rfl ⟨(bc' BK398.out 0).trans rfl,(bc' BK398.out 1).trans rfl⟩ (fun hHeld=>?_);refine with_tabW impl_stateOf.tab5 impl_stateOf.bits5 (fun HT_ HW_=>?_);generalize wr.drew=w24 at HO_399000 BK394 BK398 HB GG23 HQ25 hf23_0 hx23_0 hHeld ⊢
        refine pure_ (i:=0) (N:=some 21) (v:=?_) (a':=?_) #[true,false,false,false,false,false,false,false,false,false] rfl rfl (any_of HT_.out xk') (fun _ _ _ h=>h) (Or.inl ⟨by rfl,?_⟩) ?_ ?_
        rotate_left
        ·
         intro w';go_simp;with_reducible rfl
        rotate_left
        ·
         simp only[Act.put,sa',sb',sc',i64_w,i32_w];rfl
        refine pure_ (i:=2) (N:=some 23) (v:=?_) (a':=?_) #[true,false,true,false,false,false,false,false,false,false] rfl rfl (any_of HT_.out xk') (fun _ _ _ h=>h) (Or.inl ⟨by rfl,?_⟩) ?_ ?_
        rotate_left
        ·
         intro w';go_simp;with_reducible rfl
        rotate_left
        ·
         simp only[Act.put,sa',sb',sc',i64_w,i32_w];rfl
        refine pure_ (i:=3) (N:=some 24) (v:=?_) (a':=?_) #[true,false,true,true,false,false,false,false,false,false] rfl rfl (any_of HT_.out xk') (fun _ _ _ h=>h) (Or.inl ⟨by rfl,?_⟩) ?_ ?_
        rotate_left
        ·
         intro w';go_simp;with_reducible rfl
        rotate_left
        ·
         simp only[Act.put,sa',sb',sc',i64_w,i32_w];rfl
        refine pure_ (i:=4) (N:=some 25) (v:=?_) (a':=?_) #[true,false,true,true,true,false,false,false,false,false] rfl rfl (any_of HT_.out xk') (fun _ _ _ h=>h) (Or.inl ⟨by rfl,?_⟩) ?_ ?_
        rotate_left
        ·
         intro w';go_simp;with_reducible rfl
        rotate_left
        ·
         simp only[Act.put,sa',sb',sc',i64_w,i32_w];rfl
        refine pure_ (i:=5) (N:=some 26) (v:=?_) (a':=?_) #[true,false,true,true,true,true,false,false,false,false] rfl rfl (any_of HT_.out xk') (fun _ _ _ h=>h) (Or.inl ⟨by rfl,?_⟩) ?_ ?_
        rotate_left
        ·
         intro w';go_simp;with_reducible rfl
        rotate_left
        ·
         simp only[Act.put,sa',sb',sc',i64_w,i32_w];rfl
        refine pure_ (i:=6) (N:=some 27) (v:=?_) (a':=?_) #[true,false,true,true,true,true,true,false,false,false] rfl rfl (any_of HT_.out xk') (fun _ _ _ h=>h) (Or.inl ⟨by rfl,?_⟩) ?_ ?_
        rotate_left
        ·
         intro w';go_simp;with_reducible rfl
        rotate_left
        ·
         simp only[Act.put,sa',sb',sc',i64_w,i32_w];rfl
        refine pure_ (i:=7) (N:=some 28) (v:=?_) (a':=?_) #[true,false,true,true,true,true,true,true,false,false] rfl rfl (any_of HT_.out xk') (fun _ _ _ h=>h) (Or.inl ⟨by rfl,?_⟩) ?_ ?_
        rotate_left
        ·
         intro w';go_simp;with_reducible rfl
        rotate_left
        ·
         simp only[Act.put,sa',sb',sc',i64_w,i32_w];rfl
        refine take_ (i:=1) (N:=some 22) (v:=?_) (a':=?_) #[true,true,true,true,true,true,true,true,false,false] rfl rfl (take_ofW HT_.out HW_.out xk') (fun _ _ _ h=>h) (Or.inl ⟨by rfl,?_⟩) hHeld ?_ ?_
        rotate_left
        ·
         rintro w' ⟨s0,s1⟩
         go_simp;with_reducible rfl
        rotate_left
        ·
         simp only[Act.put,sa',sb',sc',i64_w,i32_w];rfl
        refine pure_ (i:=8) (N:=some 29) (v:=?_) (a':=?_) #[true,true,true,true,true,true,true,true,true,false] rfl rfl (any_of HT_.out xk') (fun _ _ _ h=>h) (Or.inl ⟨by rfl,?_⟩) ?_ ?_
        rotate_left
        ·
         intro w';go_simp;with_reducible rfl
        rotate_left
        ·
         simp only[Act.put,sa',sb',sc',i64_w,i32_w];rfl
        refine last_ (i:=9) (N:=none) #[true,true,true,true,true,true,true,true,true,true] rfl rfl (one_of HT_.out xk') (by decide) (fun K hK=>?_);refine skip_ (w1:=?_) (by rfl) rfl ?_ ?_
        rotate_left
        ·
         go_simp;rfl
        refine hK.out _ _ ?_
        clear hK K;refine done_ (done_of HT_.out xk') ?_
        try go_wp2
        go_roundg k1
        case measure=>have:=HK1.out;omega
        case rel=>exact ⟨(wrap64 (x18_1+1)),(y399),(.slice (some ⟨go23,0,none⟩) x399000_1.length co23),xs',H',⟨by have:=HK1.out;omega⟩,⟨kr' HQ25.out⟩,⟨by (with_reducible repeat (first|refine kn' ?_ _|refine kd' ?_|refine ka' ?_ _));refine blk_far ?_ (by have h_:=Kd.R_ne HO_399000.out BK394.out (by decide);intro e_;exact h_ (by rw[e_];rfl)) _;(with_reducible repeat (first|refine kn' ?_ _|refine kd' ?_|refine ka' ?_ _));exact BK394.out⟩,⟨by (with_reducible repeat (first|refine kn' ?_ _|refine kd' ?_|refine ka' ?_ _));refine blk_far ?_ (by have h_:=Kd.R_ne HO_399000.out BK398.out (by decide);intro e_;exact h_ (by rw[e_];rfl)) _;(with_reducible repeat (first|refine kn' ?_ _|refine kd' ?_|refine ka' ?_ _));exact BK398.out⟩,⟨y3' GB23.out GE394.out GE398.out⟩⟩
       ·
        rw[if_neg c22] at H;exact absurd H (by simp)
      ·
       rw[if_neg c20] at H;exact absurd H (by simp)
     ·
      rw[if_neg c19] at H;have c19b0:decide (x18_1 < (y395.length:Int))=false:=df' c19;clear c19;simp only[Option.some.injEq,Prod.mk.injEq] at H;obtain ⟨rfl,rfl⟩:=H;have hnb26:=NB398_394.out;have hnc26:=NB394_398.out;have hcz27_0:wr.cell? ⟨gb398,0,none⟩=some (u399000):=(bc' BK398.out 0).trans rfl;have hcz27_1:wr.cell? ⟨gb398,1,none⟩=some (.bool ((Go.bits .and .i64 (ji6) 1) == 1)):=(bc' BK398.out 1).trans rfl;have hfz27_0:=bf' BK398.out 0;have hfz27_1:=bf' BK398.out 1;obtain ⟨Ao28,co28,eo28⟩:=Kd.R_slice HO_399000.out;subst eo28;have hcz29_0:wr.cell? ⟨gb394,0,none⟩=some (.slice none 0 0):=(bc' BK394.out 0).trans rfl;have hcz29_1:wr.cell? ⟨gb394,1,none⟩=some (.bool false):=(bc' BK394.out 1).trans rfl;have hfz29_0:=bf' BK394.out 0;have hfz29_1:=bf' BK394.out 1;go_wp2;refine bodyPost_ret (results_cell_row rfl _ _ gb394 73 #[.slice Ao28 x399000_1.length co28, .bool ((Go.bits .and .i64 (ji6) 1) == 1)] (0,0) _ rfl (by (with_reducible repeat (first|refine kn' ?_ _|refine kd' ?_|refine ka' ?_ _));refine blk_put (cs:=#[.slice Ao28 x399000_1.length co28, .bool false]) ?_ 1 _ rfl;(with_reducible repeat (first|refine kn' ?_ _|refine kd' ?_|refine ka' ?_ _));refine blk_put (cs:=#[.slice none 0 0, .bool false]) ?_ 0 _ rfl;(with_reducible repeat (first|refine kn' ?_ _|refine kd' ?_|refine ka' ?_ _));exact BK394.out) Try.underlying73 rfl xk') rfl ?_
      exact ⟨_,by first|rfl|(simp[errW_none,errW_some] <;> rfl)|(simp only[← hji6];first|rfl|(simp[errW_none,errW_some] <;> rfl))|(simp[*,errW_none,errW_some] <;> rfl),by (with_reducible repeat (first|apply ra'|apply rn'|apply rw'));exact Kd.R_mono (Kd.R_far (p:=⟨gb394,1,none⟩) (Kd.R_far (p:=⟨gb394,0,none⟩) (Kd.R_types HO_399000.out BK394.out (by decide)) (fun _ hk=>hk.2) (.slice Ao28 x399000_1.length co28)) (fun _ hk=>hk.2) (.bool ((Go.bits .and .i64 (ji6) 1) == 1))) (fun _ hk=>trivial),y2' GE394.out GE398.out⟩
  ·
   rw[if_neg c4] at H;exact absurd H (by simp)
 ·
  rw[if_neg c3] at H;exact absurd H (by simp)
def impl_bit.f (a0:Bool):Option (Int):=if a0=true then (some 1) else (some 0)
set_option maxHeartbeats 8000000 in
set_option maxRecDepth 100000 in
theorem impl_bit.calls (a0:Bool) (r:Int) (w:World) (h:impl_bit.f a0=some r) :
  Calls Try.prog 117 #[.bool a0] w fun e w'=>e = .returned (.int .i64 r)∧Drawn0 w w':=by
 have H:(if a0=true then (some 1) else (some 0))=some r:=h
 clear h;by_cases c2:a0=true
 ·
  subst c2;have H1:(some 1)=some r:=by rw[if_pos rfl] at H;exact H
  clear H;have H:=H1;clear H1;obtain rfl:=os' H;go_enter Try.func117,Try.ntmps117;go_wp2;go_ret
  exact ⟨xs',by repeat (first|exact Drawn0.refl _|apply Drawn0.step)⟩
 ·
  replace c2:=Bool.eq_false_iff.mpr c2;subst c2;have H1:(some 0)=some r:=by rw[if_neg (show ¬ (false=true) by decide)] at H;exact H
  clear H;have H:=H1;clear H1;obtain rfl:=os' H;go_enter Try.func117,Try.ntmps117;go_wp2;go_ret
  exact ⟨xs',by repeat (first|exact Drawn0.refl _|apply Drawn0.step)⟩
def impl_State_code.l0:Nat→Int→List Bool→Int→Int→Option (Int)
 | 0,_,_,_,_=>none
 | k+1,x3,x14,x15,x16=>if x16 < x15 then (if 0≤x16 then (if x16 < (x14.length:Int) then ((impl_bit.f (rdOf false x14 x16)).bind fun t403=>(impl_State_code.l0 k (Go.bits .or .i64 x3 (shl .i64 t403 x16)) x14 x15 (wrap64 (x16+1)))) else (none)) else (none)) else (some x3)
def impl_State_code.f (k:Nat) (l0_0:List Bool) (a0_1:Bool):Option (Int):=(impl_bit.f a0_1).bind fun t401=>(impl_State_code.l0 k (shl .i64 t401 (l0_0.length:Int)) l0_0 (l0_0.length:Int) 0)
theorem impl_State_code.mono_l:∀ k,(∀ y0 y1 y2 y3,LeO (impl_State_code.l0 k y0 y1 y2 y3) (impl_State_code.l0 (k+1) y0 y1 y2 y3))
 | 0=>fun _ _ _ _ r h=>by simp[impl_State_code.l0] at h
 | k+1=>by
  have ih0:=impl_State_code.mono_l k
  ·
   intro y0 y1 y2 y3;unfold impl_State_code.l0
   repeat' first
   | (with_reducible exact ih0 _ _ _ _)
   | (with_reducible exact LeO.refl _)
   | (with_reducible exact LeO.none _)
   | (with_reducible refine LeO.ite ?_ ?_)
   | (with_reducible refine LeO.bind ?_ (fun _=>?_))
   | exact ih0 _ _ _ _
   | exact LeO.none _
   | refine LeO.ite ?_ ?_
   | refine LeO.bind ?_ (fun _=>?_)
theorem impl_State_code.mono:∀ a0 a1 k,LeO (impl_State_code.f k a0 a1) (impl_State_code.f (k+1) a0 a1):=by
 intro a0 a1 k;have ih0:=impl_State_code.mono_l k
 unfold impl_State_code.f
 repeat' first
   | (with_reducible exact ih0 _ _ _ _)
   | (with_reducible exact LeO.refl _)
   | (with_reducible exact LeO.none _)
   | (with_reducible refine LeO.ite ?_ ?_)
   | (with_reducible refine LeO.bind ?_ (fun _=>?_))
   | exact ih0 _ _ _ _
   | exact LeO.none _
   | refine LeO.ite ?_ ?_
   | refine LeO.bind ?_ (fun _=>?_)
set_option maxHeartbeats 8000000 in
set_option maxRecDepth 100000 in
theorem impl_State_code.calls (k:Nat) (A0_0:Option Addr) (c0_0:Nat) (l0_0:List Bool) (a0_1:Bool) (r:Int) (w:World) (hr0_0:Kd.C Kd.bool w A0_0 l0_0.length l0_0) (hc0_0:l0_0.length≤c0_0) (h:impl_State_code.f k l0_0 a0_1=some r) :
  Calls Try.prog 116 #[.agg #[.slice A0_0 l0_0.length c0_0, .bool a0_1]] w fun e w'=>e = .returned (.int .i64 r)∧Below w.heap.size w w':=by
 have hu73:=Try.underlying73
 have HR0_0:=am' hr0_0
 have HC0_0:=am' hc0_0
 clear hr0_0 hc0_0;have HB:=am' (Below.refl w.heap.size w)
 have H:((impl_bit.f a0_1).bind fun t401=>(impl_State_code.l0 k (shl .i64 t401 (l0_0.length:Int)) l0_0 (l0_0.length:Int) 0))=some r:=h
 clear h;replace H:=Option.bind_eq_some_iff.mp H
 obtain ⟨t401,A20,H⟩:=H
 replace H:(impl_State_code.l0 k (shl .i64 t401 (l0_0.length:Int)) l0_0 (l0_0.length:Int) 0)=some r:=H
 have A2:=am' A20
 clear A20;obtain ⟨ji3,hji3⟩:∃ j_:Int,(shl .i64 t401 (l0_0.length:Int))=j_:=⟨_,rfl⟩
 replace H:(impl_State_code.l0 k ji3 l0_0 (l0_0.length:Int) 0)=some r:=by first|(rw[hji3] at H;exact H)|(simp only[hji3] at H ⊢;exact H)
 (try rw [hji3] at A2)
 have hji3_:(IntKind.i64.wrap (t401 * 2 ^ min (l0_0.length:Int).toNat 64))=ji3:=hji3
 have hji3z:(l0_0.length:Int)≤64→(IntKind.i64.wrap (t401 * 2 ^ (l0_0.length:Int).toNat))=ji3:=shl_small hji3
 have hji3p:(IntKind.i64.wrap (t401 * 2 ^ min l0_0.length 64))=ji3:=hji3_
 have hji3q:(l0_0.length:Int)≤64→(IntKind.i64.wrap (t401 * 2 ^ l0_0.length))=ji3:=hji3z
 have hji3y:(wrap64 (t401 * 2 ^ min (l0_0.length:Int).toNat 64))=ji3:=(i64_w _).symm.trans hji3_
 have hji3x:(l0_0.length:Int)≤64→(wrap64 (t401 * 2 ^ (l0_0.length:Int).toNat))=ji3:=fun h_=>(i64_w _).symm.trans (hji3z h_)
 have H':=am' H
 clear H;go_enter Try.func116,Try.ntmps116
 go_wp2_with (first|((with_reducible refine gate_dst (N:=1) rfl ?_);refine box_event ?hg (N:=1) ?hd (cs:=#[.slice A0_0 l0_0.length c0_0, .bool a0_1]) (t:=73) ?hr ?_;(case hd=>rfl);(case hg=>rfl);(case hr=>first|(go_simp;done)|(go_simp;rfl));intro gb400 hg w4 hbox hb;have n0_:=am' (bt' xb' hb);have n1_:=am' (hbox);have n2_:=am' ((by rw[hg];exact (bz' xb'):w.heap.size≤gb400));have n3_:=am' ((by rw[hg];exact (bz' xb'):w.heap.size≤gb400));clear HB;have HB:=n0_;have BK400:=n1_;have GW400:=n2_;have GE400:=n3_;clear n0_ n1_ n2_ n3_;clear hb hbox hg;have hcz5_0:w4.cell? ⟨gb400,0,none⟩=some (.slice A0_0 l0_0.length c0_0):=(bc' BK400.out 0).trans rfl;have hcz5_1:w4.cell? ⟨gb400,1,none⟩=some (.bool a0_1):=(bc' BK400.out 1).trans rfl;have hfz5_0:=bf' BK400.out 0;have hfz5_1:=bf' BK400.out 1)|(go_at_call 117;(with_reducible refine (impl_bit.calls a0_1 t401 _ A2.out).mono ?_);rintro e w' ⟨rfl,⟨nd,rfl⟩⟩;(try first|exact ⟨rfl,_,World.drewN_drewN _ _ _⟩|exact ⟨rfl,_,Eq.trans (World.drewN_drewN _ _ _) (congrArg (World.drewN _) (Nat.add_assoc _ _ _))⟩)))
 repeat (go_quiet (first|((with_reducible refine gate_dst (N:=1) rfl ?_);refine box_event ?hg (N:=1) ?hd (cs:=#[.slice A0_0 l0_0.length c0_0, .bool a0_1]) (t:=73) ?hr ?_;(case hd=>rfl);(case hg=>rfl);(case hr=>first|(go_simp;done)|(go_simp;rfl));intro gb400 hg w4 hbox hb;have n0_:=am' (bt' xb' hb);have n1_:=am' (hbox);have n2_:=am' ((by rw[hg];exact (bz' xb'):w.heap.size≤gb400));have n3_:=am' ((by rw[hg];exact (bz' xb'):w.heap.size≤gb400));clear HB;have HB:=n0_;have BK400:=n1_;have GW400:=n2_;have GE400:=n3_;clear n0_ n1_ n2_ n3_;clear hb hbox hg;have hcz5_0:w4.cell? ⟨gb400,0,none⟩=some (.slice A0_0 l0_0.length c0_0):=(bc' BK400.out 0).trans rfl;have hcz5_1:w4.cell? ⟨gb400,1,none⟩=some (.bool a0_1):=(bc' BK400.out 1).trans rfl;have hfz5_0:=bf' BK400.out 0;have hfz5_1:=bf' BK400.out 1)|(go_at_call 117;(with_reducible refine (impl_bit.calls a0_1 t401 _ A2.out).mono ?_);rintro e w' ⟨rfl,⟨nd,rfl⟩⟩;(try first|exact ⟨rfl,_,World.drewN_drewN _ _ _⟩|exact ⟨rfl,_,Eq.trans (World.drewN_drewN _ _ _) (congrArg (World.drewN _) (Nat.add_assoc _ _ _))⟩)));try go_wp2_with (first|((with_reducible refine gate_dst (N:=1) rfl ?_);refine box_event ?hg (N:=1) ?hd (cs:=#[.slice A0_0 l0_0.length c0_0, .bool a0_1]) (t:=73) ?hr ?_;(case hd=>rfl);(case hg=>rfl);(case hr=>first|(go_simp;done)|(go_simp;rfl));intro gb400 hg w4 hbox hb;have n0_:=am' (bt' xb' hb);have n1_:=am' (hbox);have n2_:=am' ((by rw[hg];exact (bz' xb'):w.heap.size≤gb400));have n3_:=am' ((by rw[hg];exact (bz' xb'):w.heap.size≤gb400));clear HB;have HB:=n0_;have BK400:=n1_;have GW400:=n2_;have GE400:=n3_;clear n0_ n1_ n2_ n3_;clear hb hbox hg;have hcz5_0:w4.cell? ⟨gb400,0,none⟩=some (.slice A0_0 l0_0.length c0_0):=(bc' BK400.out 0).trans rfl;have hcz5_1:w4.cell? ⟨gb400,1,none⟩=some (.bool a0_1):=(bc' BK400.out 1).trans rfl;have hfz5_0:=bf' BK400.out 0;have hfz5_1:=bf' BK400.out 1)|(go_at_call 117;(with_reducible refine (impl_bit.calls a0_1 t401 _ A2.out).mono ?_);rintro e w' ⟨rfl,⟨nd,rfl⟩⟩;(try first|exact ⟨rfl,_,World.drewN_drewN _ _ _⟩|exact ⟨rfl,_,Eq.trans (World.drewN_drewN _ _ _) (congrArg (World.drewN _) (Nat.add_assoc _ _ _))⟩))))
 go_loopg [3,16] k (fun kq v3 v16 w'=>∃ (x3_1:Int) (x16_1:Int),v3 = .int .i64 x3_1∧v16 = .int .i64 x16_1∧Aside0 (impl_State_code.l0 kq x3_1 l0_0 (l0_0.length:Int) x16_1=some r)∧Aside0 (kq≤k)∧Aside0 (w'.heap[gb400]? = some (.cells #[(.slice A0_0 l0_0.length c0_0), .bool a0_1] 73 (0,0)))∧Aside0 (Below w.heap.size w w'))
 case atStart=>exact ⟨(ji3),(0),(by first|rfl|(simp;done)|(simp only[← hji3] <;> (first|rfl|simp))|(simp[*];done)),xs',H',⟨Nat.le_refl _⟩,⟨kk' BK400.out⟩,⟨yb' GE400.out⟩⟩
 case round =>
  clear H';try clear c1
  try clear p2
  try clear hcz5_0
  try clear hcz5_1
  try clear hfz5_0
  try clear hfz5_1
  obtain ⟨x3_1,x16_1,rfl,rfl,HA,HK1,BK400,HB⟩:=hrel;cases gk with
  | zero=>exact absurd HA.out (by simp[impl_State_code.l0])
  | succ k1 =>
   have H:=HA.out;clear HA;simp only[impl_State_code.l0] at H;by_cases c6:x16_1 < (l0_0.length:Int)
   ·
    rw[if_pos c6] at H;have c6b0:decide (x16_1 < (l0_0.length:Int))=true:=dt' c6;clear c6;by_cases c7:0≤x16_1
    ·
     rw[if_pos c7] at H;have c7b0:decide (0≤x16_1)=true:=dt' c7;clear c7;by_cases c8:x16_1 < (l0_0.length:Int)
     ·
      rw[if_pos c8] at H;have c8b0:decide (x16_1 < (l0_0.length:Int))=true:=dt' c8;clear c8;replace H:=Option.bind_eq_some_iff.mp H;obtain ⟨t403,A90,H⟩:=H;replace H:(impl_State_code.l0 k1 (Go.bits .or .i64 x3_1 (shl .i64 t403 x16_1)) l0_0 (l0_0.length:Int) (wrap64 (x16_1+1)))=some r:=H;have A9:=am' A90;clear A90;have c10b0:=eq_true (od' xa':0≤x16_1);obtain ⟨ji11,hji11⟩:∃ j_:Int,(shl .i64 t403 x16_1)=j_:=⟨_,rfl⟩
      replace H:(impl_State_code.l0 k1 (Go.bits .or .i64 x3_1 (ji11)) l0_0 (l0_0.length:Int) (wrap64 (x16_1+1)))=some r:=by first|(rw[hji11] at H;exact H)|(simp only[hji11] at H ⊢;exact H)
      (try rw [hji11] at A9)
      have hji11_:(IntKind.i64.wrap (t403 * 2 ^ min x16_1.toNat 64))=ji11:=hji11;have hji11z:x16_1≤64→(IntKind.i64.wrap (t403 * 2 ^ x16_1.toNat))=ji11:=shl_small hji11;have hji11y:(wrap64 (t403 * 2 ^ min x16_1.toNat 64))=ji11:=(i64_w _).symm.trans hji11_;have hji11x:x16_1≤64→(wrap64 (t403 * 2 ^ x16_1.toNat))=ji11:=fun h_=>(i64_w _).symm.trans (hji11z h_)
      have H':=am' H;clear H;have p402:0≤(x16_1:Int):=od' xa';have q402:x16_1 < (l0_0.length:Int):=od' xa';obtain ⟨ad402,e402,hx402_0⟩:=Kd.at_bool HR0_0.out x16_1 p402 q402;cases e402;replace hx402_0:=(HB.out.cell (bl' w _ hx402_0)).trans hx402_0;replace p402:=eq_true p402;replace q402:=eq_true q402;go_wp2_with (first|(go_at_call 117;(with_reducible refine (impl_bit.calls (rdOf false l0_0 x16_1) t403 _ A9.out).mono ?_);rintro e w' ⟨rfl,⟨nd,rfl⟩⟩;(try first|exact ⟨rfl,_,World.drewN_drewN _ _ _⟩|exact ⟨rfl,_,Eq.trans (World.drewN_drewN _ _ _) (congrArg (World.drewN _) (Nat.add_assoc _ _ _))⟩)))
      repeat (go_quiet (first|(go_at_call 117;(with_reducible refine (impl_bit.calls (rdOf false l0_0 x16_1) t403 _ A9.out).mono ?_);rintro e w' ⟨rfl,⟨nd,rfl⟩⟩;(try first|exact ⟨rfl,_,World.drewN_drewN _ _ _⟩|exact ⟨rfl,_,Eq.trans (World.drewN_drewN _ _ _) (congrArg (World.drewN _) (Nat.add_assoc _ _ _))⟩)));try go_wp2_with (first|(go_at_call 117;(with_reducible refine (impl_bit.calls (rdOf false l0_0 x16_1) t403 _ A9.out).mono ?_);rintro e w' ⟨rfl,⟨nd,rfl⟩⟩;(try first|exact ⟨rfl,_,World.drewN_drewN _ _ _⟩|exact ⟨rfl,_,Eq.trans (World.drewN_drewN _ _ _) (congrArg (World.drewN _) (Nat.add_assoc _ _ _))⟩))))
      go_roundg k1
      case measure=>have:=HK1.out;omega
      case rel=>exact ⟨(Go.bits .or .i64 x3_1 (ji11)),(wrap64 (x16_1+1)),(by first|rfl|(simp;done)|(simp only[← hji11] <;> (first|rfl|simp))|(simp[*];done)),xs',H',⟨by have:=HK1.out;omega⟩,⟨kk' BK400.out⟩,⟨yb' GE400.out⟩⟩
     ·
      rw[if_neg c8] at H;exact absurd H (by simp)
    ·
     rw[if_neg c7] at H;exact absurd H (by simp)
   ·
    rw[if_neg c6] at H;have c6b0:decide (x16_1 < (l0_0.length:Int))=false:=df' c6;clear c6;obtain rfl:=os' H;go_wp2
    repeat (go_quiet (fail);try go_wp2)
    go_ret
    exact ⟨by first|rfl|(simp[errW_none,errW_some] <;> rfl)|(simp only[← hji3];first|rfl|(simp[errW_none,errW_some] <;> rfl))|(simp[*,errW_none,errW_some] <;> rfl),yb' GE400.out⟩
def bits_Mul64.f (a0:Int) (a1:Int):Option (Int × Int):=some (IntKind.u64.wrap ((IntKind.u64.wrap ((IntKind.u64.wrap ((a0 / 4294967296) * (a1 / 4294967296)))+((IntKind.u64.wrap ((IntKind.u64.wrap ((a0 / 4294967296) * (Go.bits .and .u64 a1 4294967295)))+((IntKind.u64.wrap ((Go.bits .and .u64 a0 4294967295) * (Go.bits .and .u64 a1 4294967295))) / 4294967296))) / 4294967296)))+((IntKind.u64.wrap ((Go.bits .and .u64 (IntKind.u64.wrap ((IntKind.u64.wrap ((a0 / 4294967296) * (Go.bits .and .u64 a1 4294967295)))+((IntKind.u64.wrap ((Go.bits .and .u64 a0 4294967295) * (Go.bits .and .u64 a1 4294967295))) / 4294967296))) 4294967295)+(IntKind.u64.wrap ((Go.bits .and .u64 a0 4294967295) * (a1 / 4294967296))))) / 4294967296)),IntKind.u64.wrap (a0 * a1))
set_option maxHeartbeats 8000000 in
set_option maxRecDepth 100000 in
theorem bits_Mul64.calls (a0:Int) (a1:Int) (r1:Int) (r2:Int) (w:World) (h:bits_Mul64.f a0 a1=some (r1,r2)) :
  Calls Try.prog 127 #[.int .u64 a0, .int .u64 a1] w fun e w'=>e = .returned (.tuple #[.int .u64 r1, .int .u64 r2])∧Drawn0 w w':=by
 have H:(some (IntKind.u64.wrap ((IntKind.u64.wrap ((IntKind.u64.wrap ((a0 / 4294967296) * (a1 / 4294967296)))+((IntKind.u64.wrap ((IntKind.u64.wrap ((a0 / 4294967296) * (Go.bits .and .u64 a1 4294967295)))+((IntKind.u64.wrap ((Go.bits .and .u64 a0 4294967295) * (Go.bits .and .u64 a1 4294967295))) / 4294967296))) / 4294967296)))+((IntKind.u64.wrap ((Go.bits .and .u64 (IntKind.u64.wrap ((IntKind.u64.wrap ((a0 / 4294967296) * (Go.bits .and .u64 a1 4294967295)))+((IntKind.u64.wrap ((Go.bits .and .u64 a0 4294967295) * (Go.bits .and .u64 a1 4294967295))) / 4294967296))) 4294967295)+(IntKind.u64.wrap ((Go.bits .and .u64 a0 4294967295) * (a1 / 4294967296))))) / 4294967296)),IntKind.u64.wrap (a0 * a1)))=some (r1,r2):=h
 clear h;simp only[Option.some.injEq,Prod.mk.injEq] at H
 obtain ⟨rfl,rfl⟩:=H
 go_enter Try.func127,Try.ntmps127
 go_wp2
 go_ret2
 exact ⟨xs',by repeat (first|exact Drawn0.refl _|apply Drawn0.step)⟩
def bits_Mul.f (a0:Int) (a1:Int):Option (Int × Int):=(bits_Mul64.f a0 a1).bind fun bt404=>(some (bt404.1,bt404.2))
set_option maxHeartbeats 8000000 in
set_option maxRecDepth 100000 in
theorem bits_Mul.calls (a0:Int) (a1:Int) (r1:Int) (r2:Int) (w:World) (h:bits_Mul.f a0 a1=some (r1,r2)) :
  Calls Try.prog 120 #[.int .u64 a0, .int .u64 a1] w fun e w'=>e = .returned (.tuple #[.int .u64 r1, .int .u64 r2])∧Drawn0 w w':=by
 have H:((bits_Mul64.f a0 a1).bind fun bt404=>(some (bt404.1,bt404.2)))=some (r1,r2):=h
 clear h;replace H:=Option.bind_eq_some_iff.mp H
 obtain ⟨⟨t404,t405⟩,A30,H⟩:=H
 replace H:(some (t404,t405))=some (r1,r2):=H
 have A3:=am' A30
 clear A30;simp only[Option.some.injEq,Prod.mk.injEq] at H
 obtain ⟨rfl,rfl⟩:=H
 go_enter Try.func120,Try.ntmps120
 go_wp2_with (first|((with_reducible refine gate_callee (f:=127) rfl ?_);refine goesL_ (some 25) rfl rfl Try.func127 xk' rfl #[.int .u64 a0, .int .u64 a1] rfl xl' ?_;(with_reducible refine (bits_Mul64.calls a0 a1 t404 t405 _ A3.out).mono ?_);rintro e w' ⟨rfl,⟨nd,rfl⟩⟩;refine ⟨_,rfl,?_⟩))
 go_ret2
 exact ⟨xs',by repeat (first|exact Drawn0.refl _|apply Drawn0.step)⟩
set_option maxRecDepth 100000 in
theorem mulOneI (m:Nat) (h:m≤1024):bits_Mul.f 1 (m:Int)=some (0,(m:Int)):=by
 have e:((List.range 1025).all fun m:Nat=>decide (bits_Mul.f 1 (m:Int)=some (0,(m:Int))))=true:=by decide +kernel
 exact od' (List.all_eq_true.1 e m (by rw[List.mem_range];omega))
theorem splice_repI (n m:Nat) (v z:Value) (q:Nat) (hq:n+q≤m):splice (List.replicate n v ++ List.replicate (m - n) z) n (List.replicate q v)=List.replicate (n+q) v ++ List.replicate (m - (n+q)) z:=by
 unfold splice
 have e1:(List.replicate n v ++ List.replicate (m - n) z).take n=List.replicate n v:=by simp
 have e2:(List.replicate n v ++ List.replicate (m - n) z).drop (n+(List.replicate q v).length)=List.replicate (m - (n+q)) z:=by
  rw[List.length_replicate,List.drop_append,List.length_replicate,List.drop_replicate,List.drop_replicate];have a1:n - (n+q)=0:=by omega
  have a2:m - n - (n+q - n)=m - (n+q):=by omega
  rw[a1,a2];rfl
 rw[e1,e2,← List.append_assoc,List.replicate_append_replicate]
theorem made_repI (z:Value) (m:Nat):madeCells #[z] m=(List.replicate m z).toArray:=by
 apply Array.ext
 ·
  simp[madeCells]
 ·
  intro i h1 h2;simp[madeCells,Nat.mod_one]
theorem rep_oneI (n:Nat) (b:Int):∀ u ∈ List.replicate n (Value.int .i64 b),u.oneCell'=true:=fun u hu=>by rw[List.eq_of_mem_replicate hu];rfl
theorem rep_cellsI {w w1:World} {ad:Addr} {v:Value} (hx:w.cell? (ad.add 0)=some v) (m:Nat) (hb:Below w.heap.size w w1) (o:Obj):∀ j u,(List.replicate (min 1 m) v)[j]? = some u→(w1.alloc o).cell? (ad.add j)=some u:=by
 intro j u hu;have hb2:Below w.heap.size w (w1.alloc o):=ba' hb o
 have hj:j < min 1 m:=by have:=(List.getElem?_eq_some_iff.1 hu).1;simpa using this
 obtain rfl:j=0:=by omega
 rw[List.getElem?_replicate,if_pos hj] at hu
 cases hu
 exact (hb2.cell (bl' w _ hx)).trans hx
theorem rep_firstI {w:World} {g m t:Nat} {v z:Value} (h:w.heap[g]? = some (.cells (splice (List.replicate m z) 0 (List.replicate (min 1 m) v)).toArray t (0,0))):w.heap[g]? = some (.cells (List.replicate (min 1 m) v ++ List.replicate (m - min 1 m) z).toArray t (0,0)):=by
 have:=splice_repI 0 m v z (min 1 m) (by omega)
 simp only[List.replicate_zero,List.nil_append,Nat.sub_zero,Nat.zero_add] at this
 rwa [this] at h
theorem rep_nextI {w:World} {g m n t:Nat} {v z:Value} (h:w.heap[g]? = some (.cells (splice (List.replicate n v ++ List.replicate (m - n) z) n (List.replicate (min n (m - n)) v)).toArray t (0,0))) (hn:n≤m:=by omega):w.heap[g]? = some (.cells (List.replicate (n+min n (m - n)) v ++ List.replicate (m - (n+min n (m - n))) z).toArray t (0,0)):=by
 rwa [splice_repI n m v z _ (by omega)] at h
theorem rep_selfI {w:World} {g m n t:Nat} {v z:Value} (h:w.heap[g]? = some (.cells (List.replicate n v ++ List.replicate (m - n) z).toArray t (0,0))) (hn:n≤m):∀ j u,(List.replicate (min n (m - n)) v)[j]? = some u→w.cell? ((⟨g,0,none⟩:Addr).add j)=some u:=by
 intro j u hu;have hj:j < min n (m - n):=by have:=(List.getElem?_eq_some_iff.1 hu).1;simpa using this
 rw[List.getElem?_replicate,if_pos hj] at hu
 cases hu
 have ha:(⟨g,0,none⟩:Addr).add j=⟨g,j,none⟩:=by unfold Addr.add;split <;> simp_all
 rw[ha,bc' h j,List.getElem?_toArray,List.getElem?_append_left (by simp;omega),List.getElem?_replicate,if_pos (by omega)]
theorem rep_rowI {w:World} {base m:Nat} {v:Int} (hm:m≤1024) (h:w.heap[base]? = some (.cells (List.replicate m (Value.int .i64 v) ++ List.replicate (m - m) (Value.int .i64 0)).toArray 3 (0,0))):Kd.R (Kd.int .i64) 3 w base (fun _=>True) (.slice (some ⟨base,0,none⟩) m m) (List.replicate m v):=by
 refine Kd.R_of_own ?_ (fun _ _=>trivial)
 refine ⟨by simp[encs], .inr ⟨base,m,_,by simp,Nat.le_refl _,h,by simp,by unfold maxLen;omega,by simp,?_⟩⟩
 simp[encs]
set_option maxHeartbeats 4000000 in
set_option maxRecDepth 100000 in
theorem repeat_callsI (A0:Option Addr) (c0:Nat) (v:Int) (m:Nat) (hm:m≤1024) (w:World) (hr0:Kd.C (Kd.int .i64) w A0 1 [v]) :
  Calls Try.prog 121 #[.slice A0 1 c0, .int .i64 (m:Int)] w fun e w'=>∃ v0_:Value,e = .returned (v0_)∧Kd.R (Kd.int .i64) 3 w' w.heap.size (fun _=>True) v0_ (List.replicate m v)∧Below w.heap.size w w':=by
 obtain ⟨ad,rfl,hx0⟩:=Kd.at_int hr0 0 (by omega) (by omega)
 have hx:w.cell? (ad.add 0)=some (.int .i64 v):=by simpa [rd] using hx0
 have hinfo:(Try.prog.info? 3).map (fun i=>(i.zero,i.size,i.bytes))=some (some (.int .i64 0),1,8):=by kernel_rfl
 have hsz1:(Try.prog.info? 3).map (·.size)=some 1:=by kernel_rfl
 have hmul:=mulOneI m hm
 have hmk:=fun W:World=>run_make_row' (P:=Try.prog) 43 3 (.int .i64 0) 8 Try.underlying43 hinfo rfl .i64 .i64 m (by omega) (by omega) W
 rw[made_repI (.int .i64 0) m] at hmk
 have HX:=am' hx
 have HI:=am' hsz1
 have HM:=am' hmul
 clear hr0 hx0 hx hinfo hsz1 hmul;have hm0:(0:Int)≤(m:Int):=by omega
 have hm8:(m:Int)≤1024:=by omega
 go_enter Try.func121,Try.ntmps121
 go_wp2_with (first|(go_at_call 120;refine (bits_Mul.calls 1 m 0 m _ HM.out).mono ?_;rintro e w' ⟨rfl,⟨nd,rfl⟩⟩)|((with_reducible refine gate_builtin (b := .copy) (xs:=#[.tmp 31, .tmp 32]) rfl ?_);refine wpList_copy_splice rfl (.tmp 31) (.tmp 32) 43 43 rfl 3 Try.underlying43 HI.out (some ⟨w.heap.size,0,none⟩) (some ad) m m 1 c0 rfl rfl w.heap.size 0 (List.replicate m (.int .i64 0)) 3 ?hg1 (List.replicate (min 1 m) (.int .i64 v)) ?hn1 ?hp1 ?hf1 ?ho1 w.heap.size w ?hb1 (Nat.le_refl _) ?_;(case hg1=>exact heap_alloc_new (w.drewN nd) _);(case hn1=>simp [Nat.min_def]);(case hp1=>exact fun hp=>⟨rfl,ad,rfl,rep_cellsI HX.out m (bd' (Below.refl _ _) nd) _⟩);(case hf1=>simp;omega);(case ho1=>exact rep_oneI _ _);(case hb1=>exact ba' (bd' (Below.refl _ _) nd) _);intro w1 hc1 hb1;have HC1:=am' (rep_firstI hc1.out);have HB1:=am' hb1;clear hc1 hb1))
 go_loopg [8] m (fun gg s8 wr=>∃ n:Nat,s8 = .int .i64 (n:Int)∧min 1 m≤n∧n≤m∧m - n≤gg∧Aside0 (wr.heap[w.heap.size]? = some (.cells (List.replicate n (Value.int .i64 v) ++ List.replicate (m - n) (Value.int .i64 0)).toArray 3 (0,0)))∧Aside0 (Below w.heap.size w wr))
 case atStart=>exact ⟨min 1 m,by simp,Nat.le_refl _,Nat.min_le_right _ _,by omega,HC1,HB1⟩
 case round =>
  obtain ⟨n,rfl,h1n,hnm,hng,HC,HB⟩:=hrel;clear HC1 HB1;by_cases hlt:n < m
  ·
   have d0:decide ((n:Int) < (m:Int))=true:=by simp;omega
   have q0:(0≤(n:Int))=True:=by simp
   have q1:((n:Int)≤(m:Int))=True:=by simp;omega
   go_wp2;go_region_law (refine step_copy_splice rfl (.tmp 41) (.tmp 44) 43 43 rfl 3 Try.underlying43 HI.out (some ⟨w.heap.size,n,none⟩) (some ⟨w.heap.size,0,none⟩) (m - n) (m - n) n m ?hd ?hs w.heap.size n (List.replicate n (Value.int .i64 v) ++ List.replicate (m - n) (Value.int .i64 0)) 3 ?hg1 (List.replicate (min n (m - n)) (Value.int .i64 v)) ?hn1 ?hp1 ?hf1 (rep_oneI _ _) w.heap.size w ?hb1 (Nat.le_refl _) ?_;(case hd=>go_simp;omega);(case hs=>go_simp);(case hg1=>exact HC.out);(case hn1=>simp [Nat.min_def]);(case hp1=>exact fun hp=>⟨rfl,_,rfl,rep_selfI HC.out hnm⟩);(case hf1=>simp;omega);(case hb1=>exact bd' HB.out 1);intro w1 hc1 hb1;have HC1:=am' (rep_nextI hc1.out);have HB1:=am' hb1;clear hc1 hb1)
   go_wp2;go_roundg (m - (n+min n (m - n)))
   case measure=>omega
   case rel=>exact ⟨n+min n (m - n),by (show Value.int _ _=Value.int _ _);congr 1;exact (i64_w _).trans ((wr_id (a:=(n:Int)+(min n (m - n):Nat)) (by omega) (by omega)).trans (Int.natCast_add _ _).symm),by omega,by omega,by omega,HC1,HB1⟩
  ·
   have d0:decide ((n:Int) < (m:Int))=false:=by simp;omega
   go_wp2;go_ret
   obtain rfl:n=m:=by omega
   refine ⟨_,rfl,?_,HB.out⟩;exact rep_rowI hm HC.out
end Go.Proofs.Ytmfofjloklafoaa.C5
