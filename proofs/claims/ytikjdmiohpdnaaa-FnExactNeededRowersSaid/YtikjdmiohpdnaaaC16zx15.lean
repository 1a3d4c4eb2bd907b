import Derived.Test.YtikjdmiohpdnaaaC16zx0
import Derived.Test.YtikjdmiohpdnaaaC16zx10
import Derived.Test.YtikjdmiohpdnaaaC16zx11
import Derived.Test.YtikjdmiohpdnaaaC16zx14
import Derived.Test.YtikjdmiohpdnaaaC16zAl
namespace Go.Proofs.Ytikjdmiohpdnaaa.C16
open Go.RowKit Go.Proofs.YtikjdmiohpdnaaaW.PrintWords Go.Proofs.YtikjdmiohpdnaaaW.PrintLast Go.Proofs.YtikjdmiohpdnaaaW.PrintMore Go.Proofs.Ytikjdmiohpdnaaa.H
attribute [local go_sem] max2_int min2_int max_two min_two max_three min_three max_four min_four
set_option linter.unusedVariables false
set_option linter.unusedSimpArgs false
def impl_Crew_rowing.f (l0_0:List Int) (l0_1:List Bool) (a0_2:Int) (a1:Int) (a2:Bool):Option (List Int × List Bool × Int):=(slices_Clone_int_int.f l0_0).bind fun t360=>((slices_Clone_bool_bool.f l0_1).bind fun t363=>(if 0≤a1 then (if a1 < (t363.length:Int) then (some (t360,(t363.set (a1:Int).toNat a2),a0_2)) else (none)) else (none)))
def impl_Crew_rowing.T1:Bool × List (List Nat × List Nat):=(true,[([],[]),([0],[0]),([1],[1]),([],[]),([3],[3]),([4,2],[4]),([],[]),([6],[6]),([2,5,7],[2,5,7]),([],[]),([9,8,5,0,1,2,3,4,5,6,7,8,9],[8,9])])
def impl_Crew_rowing.B1:List Nat:=[0,1,3,0,8,31,0,64,255,0,1023]
theorem impl_Crew_rowing.tab1:rtab .any (opsOf Try.f77 1)=impl_Crew_rowing.T1:=by kernel_rfl
theorem impl_Crew_rowing.bits1:waitsOk impl_Crew_rowing.T1.2 impl_Crew_rowing.B1=true:=by kernel_rfl
set_option maxHeartbeats 8000000 in
set_option maxRecDepth 100000 in
theorem impl_Crew_rowing.calls (A0_0:Option Addr) (c0_0:Nat) (l0_0:List Int) (A0_1:Option Addr) (c0_1:Nat) (l0_1:List Bool) (a0_2:Int) (a1:Int) (a2:Bool) (r1:List Int) (r2:List Bool) (r3:Int) (w:World) (hr0_0:Kd.C (Kd.int .i64) w A0_0 l0_0.length l0_0) (hc0_0:l0_0.length≤c0_0) (hr0_1:Kd.C Kd.bool w A0_1 l0_1.length l0_1) (hc0_1:l0_1.length≤c0_1) (h:impl_Crew_rowing.f l0_0 l0_1 a0_2 a1 a2=some (r1,r2,r3)) :
  Calls Try.prog 77 #[.agg #[.slice A0_0 l0_0.length c0_0, .slice A0_1 l0_1.length c0_1, .int .i64 a0_2], .int .i64 a1, .bool a2] w fun e w'=>∃ v0_ v1_:Value,e = .returned (.agg #[v0_,v1_, .int .i64 r3])∧Kd.R (Kd.int .i64) 3 w' w.heap.size (fun _=>True) v0_ r1∧Kd.R Kd.bool 4 w' w.heap.size (fun _=>True) v1_ r2∧Below w.heap.size w w':=by
 have hu29:=Try.underlying29
 have HR0_0:=am' hr0_0
 have HC0_0:=am' hc0_0
 clear hr0_0 hc0_0;have HR0_1:=am' hr0_1
 have HC0_1:=am' hc0_1
 clear hr0_1 hc0_1;have HB:=am' (Below.refl w.heap.size w)
 have H:((slices_Clone_int_int.f l0_0).bind fun t360=>((slices_Clone_bool_bool.f l0_1).bind fun t363=>(if 0≤a1 then (if a1 < (t363.length:Int) then (some (t360,(t363.set (a1:Int).toNat a2),a0_2)) else (none)) else (none))))=some (r1,r2,r3):=h
 clear h;replace H:=Option.bind_eq_some_iff.mp H
 obtain ⟨t360,A40,H⟩:=H
 replace H:((slices_Clone_bool_bool.f l0_1).bind fun t363=>(if 0≤a1 then (if a1 < (t363.length:Int) then (some (t360,(t363.set (a1:Int).toNat a2),a0_2)) else (none)) else (none)))=some (r1,r2,r3):=H
 have A4:=am' A40
 clear A40;replace H:=Option.bind_eq_some_iff.mp H
 obtain ⟨t363,A50,H⟩:=H
 replace H:(if 0≤a1 then (if a1 < (t363.length:Int) then (some (t360,(t363.set (a1:Int).toNat a2),a0_2)) else (none)) else (none))=some (r1,r2,r3):=H
 have A5:=am' A50
 clear A50;by_cases c6:0≤a1
 ·
  rw[if_pos c6] at H;have c6b0:decide (0≤a1)=true:=decide_eq_true c6;clear c6;by_cases c7:a1 < (t363.length:Int)
  ·
   rw[if_pos c7] at H;have c7b0:decide (a1 < (t363.length:Int))=true:=decide_eq_true c7;clear c7;obtain ⟨y367,hy367⟩:∃ y_:List Bool,y_=(t363.set (a1:Int).toNat a2):=⟨_,rfl⟩
   replace H:(some (t360,y367,a0_2))=some (r1,r2,r3):=by first|(rw[hy367];with_reducible exact H)|(have H2_:=(Option.bind_some _ _).symm.trans H;rw[hy367];with_reducible exact H2_)|(have H2_:=(Option.bind_some _ _).symm.trans H;with_reducible exact H2_)|with_reducible exact H|(rw[hy367];exact H)|exact H
   have Ny367:=am' hy367;clear hy367;simp only[Option.some.injEq,Prod.mk.injEq] at H;obtain ⟨rfl,rfl,rfl⟩:=H;go_enter Try.func77,Try.ntmps77
   try go_wp2_with (first|((with_reducible refine gate_dst (N:=3) rfl ?_);refine box_event ?hg (N:=3) ?hd (cs:=#[.slice A0_0 l0_0.length c0_0, .slice A0_1 l0_1.length c0_1, .int .i64 a0_2]) (t:=29) ?hr ?_;(case hd=>rfl);(case hg=>rfl);(case hr=>first|(go_simp;done)|(go_simp;rfl));intro gb358 hg w9 hbox hb;have n0_:=am' (below_step xb' hb);have n1_:=am' (hbox);have n2_:=am' ((by rw[hg];exact (below_size xb'):w.heap.size≤gb358));have n3_:=am' ((by rw[hg];exact (below_size xb'):w.heap.size≤gb358));clear HB;have HB:=n0_;have BK358:=n1_;have GW358:=n2_;have GE358:=n3_;clear n0_ n1_ n2_ n3_;clear hb hbox hg)|((with_reducible refine gate_dst (N:=6) rfl ?_);refine box_event ?hg (N:=6) ?hd (cs:=#[.slice none 0 0, .slice none 0 0, .int .i64 0]) (t:=29) ?hr ?_;(case hd=>rfl);(case hg=>rfl);(case hr=>first|(go_simp;done)|(go_simp;rfl));intro gb359 hg w10 hbox hb;have n0_:=am' (blk_below (g:=gb358) (o := .cells #[.slice A0_0 l0_0.length c0_0, .slice A0_1 l0_1.length c0_1, .int .i64 a0_2] 29 (0,0)) (kk' BK358.out) hb);have n1_:=am' (below_step (yb' GE358.out) hb);have n2_:=am' (hbox);have n3_:=am' ((by rw[hg];exact (below_size (yb' GE358.out)):w.heap.size≤gb359));have n4_:=am' ((by rw[hg];exact (below_size (yb' GE358.out)):w.heap.size≤gb359));have n5_:=am' ((by rw[hg];exact Nat.ne_of_lt (blk_lt (g:=gb358) (o := .cells #[.slice A0_0 l0_0.length c0_0, .slice A0_1 l0_1.length c0_1, .int .i64 a0_2] 29 (0,0)) (kk' BK358.out)):gb358≠gb359));have n6_:=am' ((by rw[hg];exact Nat.ne_of_gt (blk_lt (g:=gb358) (o := .cells #[.slice A0_0 l0_0.length c0_0, .slice A0_1 l0_1.length c0_1, .int .i64 a0_2] 29 (0,0)) (kk' BK358.out)):gb359≠gb358));clear BK358;clear HB;have BK358:=n0_;have HB:=n1_;have BK359:=n2_;have GW359:=n3_;have GE359:=n4_;have NB358_359:=n5_;have NB359_358:=n6_;clear n0_ n1_ n2_ n3_ n4_ n5_ n6_;clear hb hbox hg))
   have n0_:=am' (kd' BK358.out);have n1_:=am' (kd' BK359.out);have n2_:=am' (be' HB.out);clear BK358;clear BK359;clear HB;have BK358:=n0_;have BK359:=n1_;have HB:=n2_;clear n0_ n1_ n2_;refine start_ (n:=11) (S:=fun w'=>w'.cell? ⟨gb358,0,none⟩=some (.slice A0_0 l0_0.length c0_0)∧w'.cell? ⟨gb358,1,none⟩=some (.slice A0_1 l0_1.length c0_1)∧w'.cell? ⟨gb358,2,none⟩=some (.int .i64 a0_2)) (ds:=[]) #[false,false,false,false,false,false,false,false,false,false,false] xk' rfl rfl ⟨(blk_cell BK358.out 0).trans rfl,(blk_cell BK358.out 1).trans rfl,(blk_cell BK358.out 2).trans rfl⟩ (fun hHeld=>?_);refine with_tabW impl_Crew_rowing.tab1 impl_Crew_rowing.bits1 (fun HT_ HW_=>?_);generalize w10.drew=w11 at BK358 BK359 HB hHeld ⊢
   refine pure_ (i:=0) (N:=some 8) (v:=?_) (a':=?_) #[true,false,false,false,false,false,false,false,false,false,false] rfl rfl (any_of HT_.out xk') (fun _ _ _ h=>h) (Or.inl ⟨by rfl,?_⟩) ?_ ?_
   rotate_left
   ·
    intro w';go_simp;with_reducible rfl
   rotate_left
   ·
    simp only[Act.put,sa',sb',sc',i64_w,i32_w];rfl
   refine pure_ (i:=3) (N:=some 11) (v:=?_) (a':=?_) #[true,false,false,true,false,false,false,false,false,false,false] rfl rfl (any_of HT_.out xk') (fun _ _ _ h=>h) (Or.inl ⟨by rfl,?_⟩) ?_ ?_
   rotate_left
   ·
    intro w';go_simp;with_reducible rfl
   rotate_left
   ·
    simp only[Act.put,sa',sb',sc',i64_w,i32_w];rfl
   refine pure_ (i:=6) (N:=some 14) (v:=?_) (a':=?_) #[true,false,false,true,false,false,true,false,false,false,false] rfl rfl (any_of HT_.out xk') (fun _ _ _ h=>h) (Or.inl ⟨by rfl,?_⟩) ?_ ?_
   rotate_left
   ·
    intro w';go_simp;with_reducible rfl
   rotate_left
   ·
    simp only[Act.put,sa',sb',sc',i64_w,i32_w];rfl
   refine take_ (i:=1) (N:=some 9) (v:=?_) (a':=?_) #[true,true,false,true,false,false,true,false,false,false,false] rfl rfl (take_ofW HT_.out HW_.out xk') (fun _ _ _ h=>h) (Or.inl ⟨by rfl,?_⟩) hHeld ?_ ?_
   rotate_left
   ·
    rintro w' ⟨s0,s1,s2⟩
    go_simp;with_reducible rfl
   rotate_left
   ·
    simp only[Act.put,sa',sb',sc',i64_w,i32_w];rfl
   refine take_ (i:=4) (N:=some 12) (v:=?_) (a':=?_) #[true,true,false,true,true,false,true,false,false,false,false] rfl rfl (take_ofW HT_.out HW_.out xk') (fun _ _ _ h=>h) (Or.inl ⟨by rfl,?_⟩) hHeld ?_ ?_
   rotate_left
   ·
    rintro w' ⟨s0,s1,s2⟩
    go_simp;with_reducible rfl
   rotate_left
   ·
    simp only[Act.put,sa',sb',sc',i64_w,i32_w];rfl
   refine take_ (i:=7) (N:=some 15) (v:=?_) (a':=?_) #[true,true,false,true,true,false,true,true,false,false,false] rfl rfl (take_ofW HT_.out HW_.out xk') (fun _ _ _ h=>h) (Or.inl ⟨by rfl,?_⟩) hHeld ?_ ?_
   rotate_left
   ·
    rintro w' ⟨s0,s1,s2⟩
    go_simp;with_reducible rfl
   rotate_left
   ·
    simp only[Act.put,sa',sb',sc',i64_w,i32_w];rfl
   refine join_ (σ:=Value × Value × Nat) 1 #[true,true,true,true,true,true,true,true,true,true,false] (fun s_=>[(10,s_.1),(13,s_.2.1),(7, .pointer (some ⟨s_.2.2,0,none⟩)),(16, .agg #[s_.1,s_.2.1, .int .i64 a0_2])]) (fun s_ w'=>(w'.cell? ⟨gb358,0,none⟩=some (.slice A0_0 l0_0.length c0_0)∧w'.cell? ⟨gb358,1,none⟩=some (.slice A0_1 l0_1.length c0_1)∧w'.cell? ⟨gb358,2,none⟩=some (.int .i64 a0_2))∧(Kd.R (Kd.int .i64) 3 w' w.heap.size (fun _=>True) s_.1 t360)∧(Kd.R Kd.bool 4 w' w.heap.size (fun _=>True) s_.2.1 t363)∧(w'.heap[gb358]? = some (.cells #[.slice A0_0 l0_0.length c0_0, .slice A0_1 l0_1.length c0_1, .int .i64 a0_2] 29 (0,0)))∧(w'.heap[gb359]? = some (.cells #[.slice none 0 0, .slice none 0 0, .int .i64 0] 29 (0,0)))∧(w'.heap[s_.2.2]? = some (.cells #[.slice none 0 0, .slice none 0 0, .int .i64 0] 29 (0,0)))∧(w.heap.size≤s_.2.2)∧(w.heap.size≤s_.2.2)∧(gb358≠s_.2.2)∧(s_.2.2≠gb358)∧(gb359≠s_.2.2)∧(s_.2.2≠gb359)∧(Below w.heap.size w w')) ?_ ?_
   rotate_left
   ·
    intro hCont;refine two_ (i:=2) (j:=9) (Ni:=some 10) (Nj:=some 7) #[true,true,true,true,true,false,true,true,false,false,false] #[true,true,false,true,true,false,true,true,false,true,false] rfl rfl rfl rfl (two_of HT_.out xk') (by decide) (by decide) (fun K hK=>?_) (fun K hK=>?_)
    ·
     skip
     refine goes_ Try.func105 xk' rfl #[.slice A0_0 l0_0.length c0_0] (by rfl) rfl rfl xl' ?_
     with_reducible refine (slices_Clone_int_int.calls _ _ l0_0 t360 _ ?side1 ?side2 A4.out).mono ?_
     (case side1=>repeat (first|exact (Kd.C_below HR0_0.out HB.out)|(with_reducible refine ca' ?_ _)|(with_reducible refine cn' ?_ _)|(with_reducible refine cd' ?_)))
     (case side2=>exact HC0_0.out)
     rintro e w12 ⟨v361,rfl,ho0,hb⟩
     refine ⟨_,rfl,?_⟩;have n0_:=am' (Kd.R_lower ho0 (below_size (by repeat (first|(with_reducible first|exact HB.out|apply ba'|apply bd'|apply be'|refine bs' ?_ GE358.out|refine bs' ?_ GE359.out)|exact HB.out))));have n1_:=am' (blk_below (g:=gb358) (o := .cells #[.slice A0_0 l0_0.length c0_0, .slice A0_1 l0_1.length c0_1, .int .i64 a0_2] 29 (0,0)) (kk' BK358.out) hb);have n2_:=am' (blk_below (g:=gb359) (o := .cells #[.slice none 0 0, .slice none 0 0, .int .i64 0] 29 (0,0)) (kk' BK359.out) hb);have n3_:=am' (below_step (by repeat (first|(with_reducible first|exact HB.out|apply ba'|apply bd'|apply be'|refine bs' ?_ GE358.out|refine bs' ?_ GE359.out)|exact HB.out)) hb);clear BK358;clear BK359;clear HB;have HO362:=n0_;have BK358:=n1_;have BK359:=n2_;have HB:=n3_;clear n0_ n1_ n2_ n3_;(try clear hb)
     (try clear hb2)
     (try clear hk)
     (try clear hi)
     (try clear ho0)
     refine hK.out _ _ ⟨(blk_cell BK358.out 0).trans rfl,(blk_cell BK358.out 1).trans rfl,(blk_cell BK358.out 2).trans rfl⟩ (fun hHeld=>?_);clear hK K;refine norm_ (a':=?_) ?_ ?_
     rotate_left
     ·
      show Act.put _ (some 10) _=_
      simp only[Act.put,sa',sb',sc',i64_w,i32_w];rfl
     refine two_ (i:=5) (j:=9) (Ni:=some 13) (Nj:=some 7) #[true,true,true,true,true,true,true,true,false,false,false] #[true,true,true,true,true,false,true,true,false,true,false] rfl rfl rfl rfl (two_of HT_.out xk') (by decide) (by decide) (fun K hK=>?_) (fun K hK=>?_)
     ·
      skip
      refine goes_ Try.func96 xk' rfl #[.slice A0_1 l0_1.length c0_1] (by rfl) rfl rfl xl' ?_
      with_reducible refine (slices_Clone_bool_bool.calls _ _ l0_1 t363 _ ?side1 ?side2 A5.out).mono ?_
      (case side1=>repeat (first|exact (Kd.C_below HR0_1.out HB.out)|(with_reducible refine ca' ?_ _)|(with_reducible refine cn' ?_ _)|(with_reducible refine cd' ?_)))
      (case side2=>exact HC0_1.out)
      rintro e w13 ⟨v364,rfl,ho0,hb⟩
      refine ⟨_,rfl,?_⟩;have n0_:=am' (Kd.R_below (kr' HO362.out) hb);have n1_:=am' (Kd.R_lower ho0 (below_size (by repeat (first|(with_reducible first|exact HB.out|apply ba'|apply bd'|apply be'|refine bs' ?_ GE358.out|refine bs' ?_ GE359.out)|exact HB.out))));have n2_:=am' (blk_below (g:=gb358) (o := .cells #[.slice A0_0 l0_0.length c0_0, .slice A0_1 l0_1.length c0_1, .int .i64 a0_2] 29 (0,0)) (kk' BK358.out) hb);have n3_:=am' (blk_below (g:=gb359) (o := .cells #[.slice none 0 0, .slice none 0 0, .int .i64 0] 29 (0,0)) (kk' BK359.out) hb);have n4_:=am' (below_step (by repeat (first|(with_reducible first|exact HB.out|apply ba'|apply bd'|apply be'|refine bs' ?_ GE358.out|refine bs' ?_ GE359.out)|exact HB.out)) hb);clear HO362;clear BK358;clear BK359;clear HB;have HO362:=n0_;have HO365:=n1_;have BK358:=n2_;have BK359:=n3_;have HB:=n4_;clear n0_ n1_ n2_ n3_ n4_;(try clear hb)
      (try clear hb2)
      (try clear hk)
      (try clear hi)
      (try clear ho0)
      obtain ⟨Ao14,co14,eo14⟩:=Kd.R_slice HO365.out
      (first|subst eo14|(injection eo14 with f1_ f2_ f3_;have f4_:=f1_.symm;have f5_:=f3_.symm;clear f1_ f2_ f3_;subst f4_;subst f5_))
      obtain ⟨Ao15,co15,eo15⟩:=Kd.R_slice HO362.out
      (first|subst eo15|(injection eo15 with f1_ f2_ f3_;have f4_:=f1_.symm;have f5_:=f3_.symm;clear f1_ f2_ f3_;subst f4_;subst f5_))
      refine hK.out _ _ ⟨(blk_cell BK358.out 0).trans rfl,(blk_cell BK358.out 1).trans rfl,(blk_cell BK358.out 2).trans rfl⟩ (fun hHeld=>?_);clear hK K;refine norm_ (a':=?_) ?_ ?_
      rotate_left
      ·
       show Act.put _ (some 13) _=_
       simp only[Act.put,sa',sb',sc',i64_w,i32_w];rfl
      refine pure_ (i:=8) (N:=some 16) (v:=?_) (a':=?_) #[true,true,true,true,true,true,true,true,true,false,false] rfl rfl (any_of HT_.out xk') (fun _ _ _ h=>h) (Or.inl ⟨by rfl,?_⟩) ?_ ?_
      rotate_left
      ·
       intro w';go_simp;with_reducible rfl
      rotate_left
      ·
       simp only[Act.put,sa',sb',sc',i64_w,i32_w];rfl
      refine one_ (i:=9) (N:=some 7) #[true,true,true,true,true,true,true,true,true,true,false] rfl rfl (one_of HT_.out xk') (by decide) (fun K hK=>?_);refine box_step ?hg (N:=7) ?hd (cs:=#[.slice none 0 0, .slice none 0 0, .int .i64 0]) (t:=29) ?hr ?_;(case hd=>rfl);(case hg=>rfl);(case hr=>first|(go_simp;done)|(go_simp;rfl))
      intro gb366 hg w16 hbox hb;have n0_:=am' (Kd.R_below (kr' HO362.out) hb);have n1_:=am' (Kd.R_below (kr' HO365.out) hb);have n2_:=am' (blk_below (g:=gb358) (o := .cells #[.slice A0_0 l0_0.length c0_0, .slice A0_1 l0_1.length c0_1, .int .i64 a0_2] 29 (0,0)) (kk' BK358.out) hb);have n3_:=am' (blk_below (g:=gb359) (o := .cells #[.slice none 0 0, .slice none 0 0, .int .i64 0] 29 (0,0)) (kk' BK359.out) hb);have n4_:=am' (below_step (by repeat (first|(with_reducible first|exact HB.out|apply ba'|apply bd'|apply be'|refine bs' ?_ GE358.out|refine bs' ?_ GE359.out)|exact HB.out)) hb);have n5_:=am' (hbox);have n6_:=am' ((by rw[hg];exact (below_size (by repeat (first|(with_reducible first|exact HB.out|apply ba'|apply bd'|apply be'|refine bs' ?_ GE358.out|refine bs' ?_ GE359.out)|exact HB.out))):w.heap.size≤gb366));have n7_:=am' ((by rw[hg];exact (below_size (by repeat (first|(with_reducible first|exact HB.out|apply ba'|apply bd'|apply be'|refine bs' ?_ GE358.out|refine bs' ?_ GE359.out)|exact HB.out))):w.heap.size≤gb366));have n8_:=am' ((by rw[hg];exact Nat.ne_of_lt (blk_lt (g:=gb358) (o := .cells #[.slice A0_0 l0_0.length c0_0, .slice A0_1 l0_1.length c0_1, .int .i64 a0_2] 29 (0,0)) (kk' BK358.out)):gb358≠gb366));have n9_:=am' ((by rw[hg];exact Nat.ne_of_gt (blk_lt (g:=gb358) (o := .cells #[.slice A0_0 l0_0.length c0_0, .slice A0_1 l0_1.length c0_1, .int .i64 a0_2] 29 (0,0)) (kk' BK358.out)):gb366≠gb358));have n10_:=am' ((by rw[hg];exact Nat.ne_of_lt (blk_lt (g:=gb359) (o := .cells #[.slice none 0 0, .slice none 0 0, .int .i64 0] 29 (0,0)) (kk' BK359.out)):gb359≠gb366));have n11_:=am' ((by rw[hg];exact Nat.ne_of_gt (blk_lt (g:=gb359) (o := .cells #[.slice none 0 0, .slice none 0 0, .int .i64 0] 29 (0,0)) (kk' BK359.out)):gb366≠gb359));clear HO362;clear HO365;clear BK358;clear BK359;clear HB;have HO362:=n0_;have HO365:=n1_;have BK358:=n2_;have BK359:=n3_;have HB:=n4_;have BK366:=n5_;have GW366:=n6_;have GE366:=n7_;have NB358_366:=n8_;have NB366_358:=n9_;have NB359_366:=n10_;have NB366_359:=n11_;clear n0_ n1_ n2_ n3_ n4_ n5_ n6_ n7_ n8_ n9_ n10_ n11_;clear hb hbox hg;refine hK.out _ _ ⟨(blk_cell BK358.out 0).trans rfl,(blk_cell BK358.out 1).trans rfl,(blk_cell BK358.out 2).trans rfl⟩ (fun hHeld=>?_)
      clear hK K;refine norm_ (a':=?_) ?_ ?_
      rotate_left
      ·
       show Act.put _ (some 7) _=_
       simp only[Act.put,sa',sb',sc',i64_w,i32_w];rfl
      exact norm_ (by simp only[putAll,Act.put,sa',sb',sc']) (hCont (.slice Ao15 t360.length co15, .slice Ao14 t363.length co14,gb366) _ ⟨hHeld,(kr' HO362.out),(kr' HO365.out),(kk' BK358.out),(kk' BK359.out),(kk' BK366.out),GW366.out,GE366.out,NB358_366.out,NB366_358.out,NB359_366.out,NB366_359.out,(by repeat (first|(with_reducible first|exact HB.out|apply ba'|apply bd'|apply be'|refine bs' ?_ GE358.out|refine bs' ?_ GE359.out|refine bs' ?_ GE366.out)|exact HB.out))⟩)
     ·
      skip
      refine box_step ?hg (N:=7) ?hd (cs:=#[.slice none 0 0, .slice none 0 0, .int .i64 0]) (t:=29) ?hr ?_;(case hd=>rfl);(case hg=>rfl);(case hr=>first|(go_simp;done)|(go_simp;rfl))
      intro gb366 hg w13 hbox hb;have n0_:=am' (Kd.R_below (kr' HO362.out) hb);have n1_:=am' (blk_below (g:=gb358) (o := .cells #[.slice A0_0 l0_0.length c0_0, .slice A0_1 l0_1.length c0_1, .int .i64 a0_2] 29 (0,0)) (kk' BK358.out) hb);have n2_:=am' (blk_below (g:=gb359) (o := .cells #[.slice none 0 0, .slice none 0 0, .int .i64 0] 29 (0,0)) (kk' BK359.out) hb);have n3_:=am' (below_step (by repeat (first|(with_reducible first|exact HB.out|apply ba'|apply bd'|apply be'|refine bs' ?_ GE358.out|refine bs' ?_ GE359.out)|exact HB.out)) hb);have n4_:=am' (hbox);have n5_:=am' ((by rw[hg];exact (below_size (by repeat (first|(with_reducible first|exact HB.out|apply ba'|apply bd'|apply be'|refine bs' ?_ GE358.out|refine bs' ?_ GE359.out)|exact HB.out))):w.heap.size≤gb366));have n6_:=am' ((by rw[hg];exact (below_size (by repeat (first|(with_reducible first|exact HB.out|apply ba'|apply bd'|apply be'|refine bs' ?_ GE358.out|refine bs' ?_ GE359.out)|exact HB.out))):w.heap.size≤gb366));have n7_:=am' ((by rw[hg];exact Nat.ne_of_lt (blk_lt (g:=gb358) (o := .cells #[.slice A0_0 l0_0.length c0_0, .slice A0_1 l0_1.length c0_1, .int .i64 a0_2] 29 (0,0)) (kk' BK358.out)):gb358≠gb366));have n8_:=am' ((by rw[hg];exact Nat.ne_of_gt (blk_lt (g:=gb358) (o := .cells #[.slice A0_0 l0_0.length c0_0, .slice A0_1 l0_1.length c0_1, .int .i64 a0_2] 29 (0,0)) (kk' BK358.out)):gb366≠gb358));have n9_:=am' ((by rw[hg];exact Nat.ne_of_lt (blk_lt (g:=gb359) (o := .cells #[.slice none 0 0, .slice none 0 0, .int .i64 0] 29 (0,0)) (kk' BK359.out)):gb359≠gb366));have n10_:=am' ((by rw[hg];exact Nat.ne_of_gt (blk_lt (g:=gb359) (o := .cells #[.slice none 0 0, .slice none 0 0, .int .i64 0] 29 (0,0)) (kk' BK359.out)):gb366≠gb359));clear HO362;clear BK358;clear BK359;clear HB;have HO362:=n0_;have BK358:=n1_;have BK359:=n2_;have HB:=n3_;have BK366:=n4_;have GW366:=n5_;have GE366:=n6_;have NB358_366:=n7_;have NB366_358:=n8_;have NB359_366:=n9_;have NB366_359:=n10_;clear n0_ n1_ n2_ n3_ n4_ n5_ n6_ n7_ n8_ n9_ n10_;clear hb hbox hg;refine hK.out _ _ ⟨(blk_cell BK358.out 0).trans rfl,(blk_cell BK358.out 1).trans rfl,(blk_cell BK358.out 2).trans rfl⟩ (fun hHeld=>?_);clear hK K;refine norm_ (a':=?_) ?_ ?_
      rotate_left
      ·
       show Act.put _ (some 7) _=_
       simp only[Act.put,sa',sb',sc',i64_w,i32_w];rfl
      refine one_ (i:=5) (N:=some 13) #[true,true,true,true,true,true,true,true,false,true,false] rfl rfl (one_of HT_.out xk') (by decide) (fun K hK=>?_);refine goes_ Try.func96 xk' rfl #[.slice A0_1 l0_1.length c0_1] (by rfl) rfl rfl xl' ?_
      with_reducible refine (slices_Clone_bool_bool.calls _ _ l0_1 t363 _ ?side1 ?side2 A5.out).mono ?_
      (case side1=>repeat (first|exact (Kd.C_below HR0_1.out HB.out)|(with_reducible refine ca' ?_ _)|(with_reducible refine cn' ?_ _)|(with_reducible refine cd' ?_)))
      (case side2=>exact HC0_1.out)
      rintro e w14 ⟨v364,rfl,ho0,hb⟩
      refine ⟨_,rfl,?_⟩;have n0_:=am' (Kd.R_below (kr' HO362.out) hb);have n1_:=am' (Kd.R_lower ho0 (below_size (by repeat (first|(with_reducible first|exact HB.out|apply ba'|apply bd'|apply be'|refine bs' ?_ GE358.out|refine bs' ?_ GE359.out|refine bs' ?_ GE366.out)|exact HB.out))));have n2_:=am' (blk_below (g:=gb358) (o := .cells #[.slice A0_0 l0_0.length c0_0, .slice A0_1 l0_1.length c0_1, .int .i64 a0_2] 29 (0,0)) (kk' BK358.out) hb);have n3_:=am' (blk_below (g:=gb359) (o := .cells #[.slice none 0 0, .slice none 0 0, .int .i64 0] 29 (0,0)) (kk' BK359.out) hb);have n4_:=am' (blk_below (g:=gb366) (o := .cells #[.slice none 0 0, .slice none 0 0, .int .i64 0] 29 (0,0)) (kk' BK366.out) hb);have n5_:=am' (below_step (by repeat (first|(with_reducible first|exact HB.out|apply ba'|apply bd'|apply be'|refine bs' ?_ GE358.out|refine bs' ?_ GE359.out|refine bs' ?_ GE366.out)|exact HB.out)) hb);clear HO362;clear BK358;clear BK359;clear BK366;clear HB;have HO362:=n0_;have HO365:=n1_;have BK358:=n2_;have BK359:=n3_;have BK366:=n4_;have HB:=n5_;clear n0_ n1_ n2_ n3_ n4_ n5_;(try clear hb)
      (try clear hb2)
      (try clear hk)
      (try clear hi)
      (try clear ho0)
      obtain ⟨Ao15,co15,eo15⟩:=Kd.R_slice HO365.out
      (first|subst eo15|(injection eo15 with f1_ f2_ f3_;have f4_:=f1_.symm;have f5_:=f3_.symm;clear f1_ f2_ f3_;subst f4_;subst f5_))
      obtain ⟨Ao16,co16,eo16⟩:=Kd.R_slice HO362.out
      (first|subst eo16|(injection eo16 with f1_ f2_ f3_;have f4_:=f1_.symm;have f5_:=f3_.symm;clear f1_ f2_ f3_;subst f4_;subst f5_))
      refine hK.out _ _ ⟨(blk_cell BK358.out 0).trans rfl,(blk_cell BK358.out 1).trans rfl,(blk_cell BK358.out 2).trans rfl⟩ (fun hHeld=>?_);clear hK K;refine norm_ (a':=?_) ?_ ?_
      rotate_left
      ·
       show Act.put _ (some 13) _=_
       simp only[Act.put,sa',sb',sc',i64_w,i32_w];rfl
      refine pure_ (i:=8) (N:=some 16) (v:=?_) (a':=?_) #[true,true,true,true,true,true,true,true,true,true,false] rfl rfl (any_of HT_.out xk') (fun _ _ _ h=>h) (Or.inl ⟨by rfl,?_⟩) ?_ ?_
      rotate_left
      ·
       intro w';go_simp;with_reducible rfl
      rotate_left
      ·
       simp only[Act.put,sa',sb',sc',i64_w,i32_w];rfl
      exact norm_ (by simp only[putAll,Act.put,sa',sb',sc']) (hCont (.slice Ao16 t360.length co16, .slice Ao15 t363.length co15,gb366) _ ⟨hHeld,(kr' HO362.out),(kr' HO365.out),(kk' BK358.out),(kk' BK359.out),(kk' BK366.out),GW366.out,GE366.out,NB358_366.out,NB366_358.out,NB359_366.out,NB366_359.out,(by repeat (first|(with_reducible first|exact HB.out|apply ba'|apply bd'|apply be'|refine bs' ?_ GE358.out|refine bs' ?_ GE359.out|refine bs' ?_ GE366.out)|exact HB.out))⟩)
    ·
     skip
     refine box_step ?hg (N:=7) ?hd (cs:=#[.slice none 0 0, .slice none 0 0, .int .i64 0]) (t:=29) ?hr ?_;(case hd=>rfl);(case hg=>rfl);(case hr=>first|(go_simp;done)|(go_simp;rfl))
     intro gb366 hg w12 hbox hb;have n0_:=am' (blk_below (g:=gb358) (o := .cells #[.slice A0_0 l0_0.length c0_0, .slice A0_1 l0_1.length c0_1, .int .i64 a0_2] 29 (0,0)) (kk' BK358.out) hb);have n1_:=am' (blk_below (g:=gb359) (o := .cells #[.slice none 0 0, .slice none 0 0, .int .i64 0] 29 (0,0)) (kk' BK359.out) hb);have n2_:=am' (below_step (by repeat (first|(with_reducible first|exact HB.out|apply ba'|apply bd'|apply be'|refine bs' ?_ GE358.out|refine bs' ?_ GE359.out)|exact HB.out)) hb);have n3_:=am' (hbox);have n4_:=am' ((by rw[hg];exact (below_size (by repeat (first|(with_reducible first|exact HB.out|apply ba'|apply bd'|apply be'|refine bs' ?_ GE358.out|refine bs' ?_ GE359.out)|exact HB.out))):w.heap.size≤gb366));have n5_:=am' ((by rw[hg];exact (below_size (by repeat (first|(with_reducible first|exact HB.out|apply ba'|apply bd'|apply be'|refine bs' ?_ GE358.out|refine bs' ?_ GE359.out)|exact HB.out))):w.heap.size≤gb366));have n6_:=am' ((by rw[hg];exact Nat.ne_of_lt (blk_lt (g:=gb358) (o := .cells #[.slice A0_0 l0_0.length c0_0, .slice A0_1 l0_1.length c0_1, .int .i64 a0_2] 29 (0,0)) (kk' BK358.out)):gb358≠gb366));have n7_:=am' ((by rw[hg];exact Nat.ne_of_gt (blk_lt (g:=gb358) (o := .cells #[.slice A0_0 l0_0.length c0_0, .slice A0_1 l0_1.length c0_1, .int .i64 a0_2] 29 (0,0)) (kk' BK358.out)):gb366≠gb358));have n8_:=am' ((by rw[hg];exact Nat.ne_of_lt (blk_lt (g:=gb359) (o := .cells #[.slice none 0 0, .slice none 0 0, .int .i64 0] 29 (0,0)) (kk' BK359.out)):gb359≠gb366));have n9_:=am' ((by rw[hg];exact Nat.ne_of_gt (blk_lt (g:=gb359) (o := .cells #[.slice none 0 0, .slice none 0 0, .int .i64 0] 29 (0,0)) (kk' BK359.out)):gb366≠gb359));clear BK358;clear BK359;clear HB;have BK358:=n0_;have BK359:=n1_;have HB:=n2_;have BK366:=n3_;have GW366:=n4_;have GE366:=n5_;have NB358_366:=n6_;have NB366_358:=n7_;have NB359_366:=n8_;have NB366_359:=n9_;clear n0_ n1_ n2_ n3_ n4_ n5_ n6_ n7_ n8_ n9_;clear hb hbox hg;refine hK.out _ _ ⟨(blk_cell BK358.out 0).trans rfl,(blk_cell BK358.out 1).trans rfl,(blk_cell BK358.out 2).trans rfl⟩ (fun hHeld=>?_);clear hK K;refine norm_ (a':=?_) ?_ ?_
     rotate_left
     ·
      show Act.put _ (some 7) _=_
      simp only[Act.put,sa',sb',sc',i64_w,i32_w];rfl
     refine one_ (i:=2) (N:=some 10) #[true,true,true,true,true,false,true,true,false,true,false] rfl rfl (one_of HT_.out xk') (by decide) (fun K hK=>?_);refine goes_ Try.func105 xk' rfl #[.slice A0_0 l0_0.length c0_0] (by rfl) rfl rfl xl' ?_
     with_reducible refine (slices_Clone_int_int.calls _ _ l0_0 t360 _ ?side1 ?side2 A4.out).mono ?_
     (case side1=>repeat (first|exact (Kd.C_below HR0_0.out HB.out)|(with_reducible refine ca' ?_ _)|(with_reducible refine cn' ?_ _)|(with_reducible refine cd' ?_)))
     (case side2=>exact HC0_0.out)
     rintro e w13 ⟨v361,rfl,ho0,hb⟩
     refine ⟨_,rfl,?_⟩;have n0_:=am' (Kd.R_lower ho0 (below_size (by repeat (first|(with_reducible first|exact HB.out|apply ba'|apply bd'|apply be'|refine bs' ?_ GE358.out|refine bs' ?_ GE359.out|refine bs' ?_ GE366.out)|exact HB.out))));have n1_:=am' (blk_below (g:=gb358) (o := .cells #[.slice A0_0 l0_0.length c0_0, .slice A0_1 l0_1.length c0_1, .int .i64 a0_2] 29 (0,0)) (kk' BK358.out) hb);have n2_:=am' (blk_below (g:=gb359) (o := .cells #[.slice none 0 0, .slice none 0 0, .int .i64 0] 29 (0,0)) (kk' BK359.out) hb);have n3_:=am' (blk_below (g:=gb366) (o := .cells #[.slice none 0 0, .slice none 0 0, .int .i64 0] 29 (0,0)) (kk' BK366.out) hb);have n4_:=am' (below_step (by repeat (first|(with_reducible first|exact HB.out|apply ba'|apply bd'|apply be'|refine bs' ?_ GE358.out|refine bs' ?_ GE359.out|refine bs' ?_ GE366.out)|exact HB.out)) hb);clear BK358;clear BK359;clear BK366;clear HB;have HO362:=n0_;have BK358:=n1_;have BK359:=n2_;have BK366:=n3_;have HB:=n4_;clear n0_ n1_ n2_ n3_ n4_;(try clear hb)
     (try clear hb2)
     (try clear hk)
     (try clear hi)
     (try clear ho0)
     refine hK.out _ _ ⟨(blk_cell BK358.out 0).trans rfl,(blk_cell BK358.out 1).trans rfl,(blk_cell BK358.out 2).trans rfl⟩ (fun hHeld=>?_);clear hK K;refine norm_ (a':=?_) ?_ ?_
     rotate_left
     ·
      show Act.put _ (some 10) _=_
      simp only[Act.put,sa',sb',sc',i64_w,i32_w];rfl
     refine one_ (i:=5) (N:=some 13) #[true,true,true,true,true,true,true,true,false,true,false] rfl rfl (one_of HT_.out xk') (by decide) (fun K hK=>?_);refine goes_ Try.func96 xk' rfl #[.slice A0_1 l0_1.length c0_1] (by rfl) rfl rfl xl' ?_
     with_reducible refine (slices_Clone_bool_bool.calls _ _ l0_1 t363 _ ?side1 ?side2 A5.out).mono ?_
     (case side1=>repeat (first|exact (Kd.C_below HR0_1.out HB.out)|(with_reducible refine ca' ?_ _)|(with_reducible refine cn' ?_ _)|(with_reducible refine cd' ?_)))
     (case side2=>exact HC0_1.out)
     rintro e w14 ⟨v364,rfl,ho0,hb⟩
     refine ⟨_,rfl,?_⟩;have n0_:=am' (Kd.R_below (kr' HO362.out) hb);have n1_:=am' (Kd.R_lower ho0 (below_size (by repeat (first|(with_reducible first|exact HB.out|apply ba'|apply bd'|apply be'|refine bs' ?_ GE358.out|refine bs' ?_ GE359.out|refine bs' ?_ GE366.out)|exact HB.out))));have n2_:=am' (blk_below (g:=gb358) (o := .cells #[.slice A0_0 l0_0.length c0_0, .slice A0_1 l0_1.length c0_1, .int .i64 a0_2] 29 (0,0)) (kk' BK358.out) hb);have n3_:=am' (blk_below (g:=gb359) (o := .cells #[.slice none 0 0, .slice none 0 0, .int .i64 0] 29 (0,0)) (kk' BK359.out) hb);have n4_:=am' (blk_below (g:=gb366) (o := .cells #[.slice none 0 0, .slice none 0 0, .int .i64 0] 29 (0,0)) (kk' BK366.out) hb);have n5_:=am' (below_step (by repeat (first|(with_reducible first|exact HB.out|apply ba'|apply bd'|apply be'|refine bs' ?_ GE358.out|refine bs' ?_ GE359.out|refine bs' ?_ GE366.out)|exact HB.out)) hb);clear HO362;clear BK358;clear BK359;clear BK366;clear HB;have HO362:=n0_;have HO365:=n1_;have BK358:=n2_;have BK359:=n3_;have BK366:=n4_;have HB:=n5_;clear n0_ n1_ n2_ n3_ n4_ n5_;(try clear hb)
     (try clear hb2)
     (try clear hk)
     (try clear hi)
     (try clear ho0)
     obtain ⟨Ao15,co15,eo15⟩:=Kd.R_slice HO365.out
     (first|subst eo15|(injection eo15 with f1_ f2_ f3_;have f4_:=f1_.symm;have f5_:=f3_.symm;clear f1_ f2_ f3_;subst f4_;subst f5_))
     obtain ⟨Ao16,co16,eo16⟩:=Kd.R_slice HO362.out
     (first|subst eo16|(injection eo16 with f1_ f2_ f3_;have f4_:=f1_.symm;have f5_:=f3_.symm;clear f1_ f2_ f3_;subst f4_;subst f5_))
     refine hK.out _ _ ⟨(blk_cell BK358.out 0).trans rfl,(blk_cell BK358.out 1).trans rfl,(blk_cell BK358.out 2).trans rfl⟩ (fun hHeld=>?_);clear hK K;refine norm_ (a':=?_) ?_ ?_
     rotate_left
     ·
      show Act.put _ (some 13) _=_
      simp only[Act.put,sa',sb',sc',i64_w,i32_w];rfl
     refine pure_ (i:=8) (N:=some 16) (v:=?_) (a':=?_) #[true,true,true,true,true,true,true,true,true,true,false] rfl rfl (any_of HT_.out xk') (fun _ _ _ h=>h) (Or.inl ⟨by rfl,?_⟩) ?_ ?_
     rotate_left
     ·
      intro w';go_simp;with_reducible rfl
     rotate_left
     ·
      simp only[Act.put,sa',sb',sc',i64_w,i32_w];rfl
     exact norm_ (by simp only[putAll,Act.put,sa',sb',sc']) (hCont (.slice Ao16 t360.length co16, .slice Ao15 t363.length co15,gb366) _ ⟨hHeld,(kr' HO362.out),(kr' HO365.out),(kk' BK358.out),(kk' BK359.out),(kk' BK366.out),GW366.out,GE366.out,NB358_366.out,NB366_358.out,NB359_366.out,NB366_359.out,(by repeat (first|(with_reducible first|exact HB.out|apply ba'|apply bd'|apply be'|refine bs' ?_ GE358.out|refine bs' ?_ GE359.out|refine bs' ?_ GE366.out)|exact HB.out))⟩)
   rintro ⟨v361,v364,gb366⟩ w17 ⟨hS_,h0_,h1_,h2_,h3_,h4_,h5_,h6_,h7_,h8_,h9_,h10_,h11_⟩
   have n0_:Aside0 (Kd.R (Kd.int .i64) 3 w17 w.heap.size (fun _=>True) v361 t360):=⟨h0_⟩
   have n1_:Aside0 (Kd.R Kd.bool 4 w17 w.heap.size (fun _=>True) v364 t363):=⟨h1_⟩
   have n2_:Aside0 (w17.heap[gb358]? = some (.cells #[.slice A0_0 l0_0.length c0_0, .slice A0_1 l0_1.length c0_1, .int .i64 a0_2] 29 (0,0))):=⟨h2_⟩
   have n3_:Aside0 (w17.heap[gb359]? = some (.cells #[.slice none 0 0, .slice none 0 0, .int .i64 0] 29 (0,0))):=⟨h3_⟩
   have n4_:Aside0 (w17.heap[gb366]? = some (.cells #[.slice none 0 0, .slice none 0 0, .int .i64 0] 29 (0,0))):=⟨h4_⟩
   have n5_:Aside0 (w.heap.size≤gb366):=⟨h5_⟩
   have n6_:Aside0 (w.heap.size≤gb366):=⟨h6_⟩
   have n7_:Aside0 (gb358≠gb366):=⟨h7_⟩
   have n8_:Aside0 (gb366≠gb358):=⟨h8_⟩
   have n9_:Aside0 (gb359≠gb366):=⟨h9_⟩
   have n10_:Aside0 (gb366≠gb359):=⟨h10_⟩
   have n11_:Aside0 (Below w.heap.size w w17):=⟨h11_⟩
   clear BK358;clear BK359;clear HB;clear h0_ h1_ h2_ h3_ h4_ h5_ h6_ h7_ h8_ h9_ h10_ h11_;have HO362:=n0_;have HO365:=n1_;have BK358:=n2_;have BK359:=n3_;have BK366:=n4_;have GW366:=n5_;have GE366:=n6_;have NB358_366:=n7_;have NB366_358:=n8_;have NB359_366:=n9_;have NB366_359:=n10_;have HB:=n11_;clear n0_ n1_ n2_ n3_ n4_ n5_ n6_ n7_ n8_ n9_ n10_ n11_;have hHeld:w17.cell? ⟨gb358,0,none⟩=some (.slice A0_0 l0_0.length c0_0)∧w17.cell? ⟨gb358,1,none⟩=some (.slice A0_1 l0_1.length c0_1)∧w17.cell? ⟨gb358,2,none⟩=some (.int .i64 a0_2):=hS_;obtain ⟨Ao18,co18,eo18⟩:=Kd.R_slice HO365.out
   (first|subst eo18|(injection eo18 with f1_ f2_ f3_;have f4_:=f1_.symm;have f5_:=f3_.symm;clear f1_ f2_ f3_;subst f4_;subst f5_))
   obtain ⟨Ao19,co19,eo19⟩:=Kd.R_slice HO362.out
   (first|subst eo19|(injection eo19 with f1_ f2_ f3_;have f4_:=f1_.symm;have f5_:=f3_.symm;clear f1_ f2_ f3_;subst f4_;subst f5_))
   refine norm_ (a':=?_) ?_ ?_
   rotate_left
   ·
    simp only[putAll,Act.put,sa',sb',sc'];rfl
   refine one_ (i:=10) (N:=none) #[true,true,true,true,true,true,true,true,true,true,true] rfl rfl (one_of HT_.out xk') (by decide) (fun K hK=>?_);have hs20:w17.cell? ⟨gb366,0,none⟩=some (.slice none 0 0):=(blk_cell BK366.out 0).trans rfl;have hfs20:=blk_frozen BK366.out 0;have hns20_0:=NB358_366.out;have hns20_1:=NB359_366.out;have hms20_0:=NB366_358.out;have hms20_1:=NB366_359.out;have hs21:w17.cell? ⟨gb366,1,none⟩=some (.slice none 0 0):=(blk_cell BK366.out 1).trans rfl;have hfs21:=blk_frozen BK366.out 1;have hns21_0:=NB358_366.out;have hns21_1:=NB359_366.out;have hms21_0:=NB366_358.out;have hms21_1:=NB366_359.out;have hs22:w17.cell? ⟨gb366,2,none⟩=some (.int .i64 0):=(blk_cell BK366.out 2).trans rfl;have hfs22:=blk_frozen BK366.out 2;have hns22_0:=NB358_366.out;have hns22_1:=NB359_366.out;have hms22_0:=NB366_358.out;have hms22_1:=NB366_359.out;refine skip_ (w1:=?_) (by rfl) rfl ?_ ?_
   rotate_left
   ·
    go_simp;rfl
   refine hK.out _ _ ⟨((cell_far (p:=⟨gb366,_,none⟩) NB358_366.out _).trans (((cell_far (p:=⟨gb366,_,none⟩) NB358_366.out _).trans (((cell_far (p:=⟨gb366,_,none⟩) NB358_366.out _).trans (hHeld.1)))))),((cell_far (p:=⟨gb366,_,none⟩) NB358_366.out _).trans (((cell_far (p:=⟨gb366,_,none⟩) NB358_366.out _).trans (((cell_far (p:=⟨gb366,_,none⟩) NB358_366.out _).trans (hHeld.2.1)))))),((cell_far (p:=⟨gb366,_,none⟩) NB358_366.out _).trans (((cell_far (p:=⟨gb366,_,none⟩) NB358_366.out _).trans (((cell_far (p:=⟨gb366,_,none⟩) NB358_366.out _).trans (hHeld.2.2))))))⟩ (fun hHeld=>?_);clear hK K;refine done_ (done_of HT_.out xk') ?_
   have n0_:Aside0 (Kd.R (Kd.int .i64) 3 (((w17.setCell ⟨gb366,0,none⟩ (.slice Ao19 t360.length co19)).setCell ⟨gb366,1,none⟩ (.slice Ao18 t363.length co18)).setCell ⟨gb366,2,none⟩ (.int .i64 a0_2)) w.heap.size (fun _=>True) (.slice Ao19 t360.length co19) t360):=⟨by (with_reducible repeat (first|apply ra'|apply rn'|apply rw'));exact Kd.R_mono (Kd.R_far (p:=⟨gb366,2,none⟩) (Kd.R_far (p:=⟨gb366,1,none⟩) (Kd.R_far (p:=⟨gb366,0,none⟩) (Kd.R_types HO362.out BK366.out (by decide)) (fun _ hk=>hk.2) (.slice Ao19 t360.length co19)) (fun _ hk=>hk.2) (.slice Ao18 t363.length co18)) (fun _ hk=>hk.2) (.int .i64 a0_2)) (fun _ hk=>trivial)⟩
   have n1_:Aside0 (Kd.R Kd.bool 4 (((w17.setCell ⟨gb366,0,none⟩ (.slice Ao19 t360.length co19)).setCell ⟨gb366,1,none⟩ (.slice Ao18 t363.length co18)).setCell ⟨gb366,2,none⟩ (.int .i64 a0_2)) w.heap.size (fun _=>True) (.slice Ao18 t363.length co18) t363):=⟨by (with_reducible repeat (first|apply ra'|apply rn'|apply rw'));exact Kd.R_mono (Kd.R_far (p:=⟨gb366,2,none⟩) (Kd.R_far (p:=⟨gb366,1,none⟩) (Kd.R_far (p:=⟨gb366,0,none⟩) (Kd.R_types HO365.out BK366.out (by decide)) (fun _ hk=>hk.2) (.slice Ao19 t360.length co19)) (fun _ hk=>hk.2) (.slice Ao18 t363.length co18)) (fun _ hk=>hk.2) (.int .i64 a0_2)) (fun _ hk=>trivial)⟩
   have n2_:Aside0 ((((w17.setCell ⟨gb366,0,none⟩ (.slice Ao19 t360.length co19)).setCell ⟨gb366,1,none⟩ (.slice Ao18 t363.length co18)).setCell ⟨gb366,2,none⟩ (.int .i64 a0_2)).heap[gb358]? = some (.cells #[.slice A0_0 l0_0.length c0_0, .slice A0_1 l0_1.length c0_1, .int .i64 a0_2] 29 (0,0))):=⟨by (with_reducible repeat (first|refine kn' ?_ _|refine kd' ?_|refine ka' ?_ _));refine blk_far ?_ NB358_366.out _;(with_reducible repeat (first|refine kn' ?_ _|refine kd' ?_|refine ka' ?_ _));refine blk_far ?_ NB358_366.out _;(with_reducible repeat (first|refine kn' ?_ _|refine kd' ?_|refine ka' ?_ _));refine blk_far ?_ NB358_366.out _;(with_reducible repeat (first|refine kn' ?_ _|refine kd' ?_|refine ka' ?_ _));exact BK358.out⟩
   have n3_:Aside0 ((((w17.setCell ⟨gb366,0,none⟩ (.slice Ao19 t360.length co19)).setCell ⟨gb366,1,none⟩ (.slice Ao18 t363.length co18)).setCell ⟨gb366,2,none⟩ (.int .i64 a0_2)).heap[gb359]? = some (.cells #[.slice none 0 0, .slice none 0 0, .int .i64 0] 29 (0,0))):=⟨by (with_reducible repeat (first|refine kn' ?_ _|refine kd' ?_|refine ka' ?_ _));refine blk_far ?_ NB359_366.out _;(with_reducible repeat (first|refine kn' ?_ _|refine kd' ?_|refine ka' ?_ _));refine blk_far ?_ NB359_366.out _;(with_reducible repeat (first|refine kn' ?_ _|refine kd' ?_|refine ka' ?_ _));refine blk_far ?_ NB359_366.out _;(with_reducible repeat (first|refine kn' ?_ _|refine kd' ?_|refine ka' ?_ _));exact BK359.out⟩
   have n4_:Aside0 ((((w17.setCell ⟨gb366,0,none⟩ (.slice Ao19 t360.length co19)).setCell ⟨gb366,1,none⟩ (.slice Ao18 t363.length co18)).setCell ⟨gb366,2,none⟩ (.int .i64 a0_2)).heap[gb366]? = some (.cells #[.slice Ao19 t360.length co19, .slice Ao18 t363.length co18, .int .i64 a0_2] 29 (0,0))):=⟨by (with_reducible repeat (first|refine kn' ?_ _|refine kd' ?_|refine ka' ?_ _));refine blk_put (cs:=#[.slice Ao19 t360.length co19, .slice Ao18 t363.length co18, .int .i64 0]) ?_ 2 _ rfl;(with_reducible repeat (first|refine kn' ?_ _|refine kd' ?_|refine ka' ?_ _));refine blk_put (cs:=#[.slice Ao19 t360.length co19, .slice none 0 0, .int .i64 0]) ?_ 1 _ rfl;(with_reducible repeat (first|refine kn' ?_ _|refine kd' ?_|refine ka' ?_ _));refine blk_put (cs:=#[.slice none 0 0, .slice none 0 0, .int .i64 0]) ?_ 0 _ rfl;(with_reducible repeat (first|refine kn' ?_ _|refine kd' ?_|refine ka' ?_ _));exact BK366.out⟩
   have n5_:Aside0 (Below w.heap.size w (((w17.setCell ⟨gb366,0,none⟩ (.slice Ao19 t360.length co19)).setCell ⟨gb366,1,none⟩ (.slice Ao18 t363.length co18)).setCell ⟨gb366,2,none⟩ (.int .i64 a0_2))):=⟨by repeat (first|(with_reducible first|exact HB.out|apply ba'|apply bd'|apply be'|refine bs' ?_ GE358.out|refine bs' ?_ GE359.out|refine bs' ?_ GE366.out)|exact HB.out)⟩
   (try clear HO362)
   (try clear HO365)
   (try clear BK358)
   (try clear BK359)
   (try clear BK366)
   (try clear HB)
   generalize (((w17.setCell ⟨gb366,0,none⟩ (.slice Ao19 t360.length co19)).setCell ⟨gb366,1,none⟩ (.slice Ao18 t363.length co18)).setCell ⟨gb366,2,none⟩ (.int .i64 a0_2))=w23 at n0_ n1_ n2_ n3_ n4_ n5_ ⊢
   have HO362:=n0_;have HO365:=n1_;have BK358:=n2_;have BK359:=n3_;have BK366:=n4_;have HB:=n5_;clear n0_ n1_ n2_ n3_ n4_ n5_;have hnb24:=NB366_358.out;have hnc24:=NB358_366.out;have hnb25:=NB366_359.out;have hnc25:=NB359_366.out;have hcz26_0:w23.cell? ⟨gb366,0,none⟩=some (.slice Ao19 t360.length co19):=(blk_cell BK366.out 0).trans rfl;have hcz26_1:w23.cell? ⟨gb366,1,none⟩=some (.slice Ao18 t363.length co18):=(blk_cell BK366.out 1).trans rfl;have hcz26_2:w23.cell? ⟨gb366,2,none⟩=some (.int .i64 a0_2):=(blk_cell BK366.out 2).trans rfl;have hfz26_0:=blk_frozen BK366.out 0;have hfz26_1:=blk_frozen BK366.out 1;have hfz26_2:=blk_frozen BK366.out 2;have p8:0≤(a1:Int):=of_decide_eq_true xa';have q8:(a1:Int) < ((t363.length:Int):Int):=of_decide_eq_true xa';obtain ⟨go8,co8,eo8,gb8,gl8,cl8,HG8⟩:=Kd.R_form HO365.out (by omega)
   (first|cases eo8|(injection eo8 with ea_ en_ ec_;(first|subst ea_|(injection ea_ with ea_;subst ea_));subst ec_;clear en_))
   have GB8:=am' gb8;have GG8:=am' HG8;clear gb8 gl8 HG8;obtain ⟨hx8_0,hf8_0⟩:=Kd.R_celln false HO365.out (a1:Int) p8 q8;replace p8:=eq_true p8;replace q8:=eq_true q8;obtain ⟨hy27_,hz27_⟩:=Kd.R_celln false HO365.out (a1:Int) (of_decide_eq_true xa') (of_decide_eq_true xa');have HP27:=Kd.R_putg HO365.out (a1:Int) a2
   try go_wp2_with (first|((with_reducible refine gate_store (t:=4) (p:=21) rfl ?_);refine store_event (t:=4) (p:=21) (v:=?vo_w28) (w1:=(w23.setCell ⟨go8,(a1:Int).toNat,none⟩ (.bool a2))) ?hg ?ho ?hn ?hr ?_;(case ho=>rfl);(case hg=>rfl);(case hn=>rfl);(case hr=>first|(go_simp;done)|(go_simp;rfl));intro w28 hw;have hg:w23.grownBy w28 (some go8):=(by rw[hw];exact HP27.2);have hp_:Kd.R Kd.bool 4 w28 w.heap.size (fun _=>True) (.slice (some ⟨go8,0,none⟩) t363.length co18) y367:=(by rw[hw,Ny367.out];exact HP27.1);clear HP27;have n0_:=am' (blk_grown (g:=gb358) (o := .cells #[.slice A0_0 l0_0.length c0_0, .slice A0_1 l0_1.length c0_1, .int .i64 a0_2] 29 (0,0)) (kk' BK358.out) hg (Kd.R_ne HO365.out BK358.out (by decide)));have n1_:=am' (blk_grown (g:=gb359) (o := .cells #[.slice none 0 0, .slice none 0 0, .int .i64 0] 29 (0,0)) (kk' BK359.out) hg (Kd.R_ne HO365.out BK359.out (by decide)));have n2_:=am' (Kd.R_over' (v:=(.slice (some ⟨go8,0,none⟩) t363.length co18)) (kr' HO362.out) (Kd.R_typed HO365.out) (by decide) hg);have n3_:=am' (hp_);have n4_:=am' (blk_grown (g:=gb366) (o := .cells #[.slice Ao19 t360.length co19, .slice (some ⟨go8,0,none⟩) t363.length co18, .int .i64 a0_2] 29 (0,0)) (kk' BK366.out) hg (Kd.R_ne HO365.out BK366.out (by decide)));have n5_:=am' ((by rw[hw];exact bs' (HB.out) GB8.out:Below w.heap.size w w28));clear BK358;clear BK359;clear HO362;clear HO365;clear BK366;clear HB;have BK358:=n0_;have BK359:=n1_;have HO362:=n2_;have HO365:=n3_;have BK366:=n4_;have HB:=n5_;clear n0_ n1_ n2_ n3_ n4_ n5_;clear hg hw hp_;have hcz29_0:w28.cell? ⟨gb366,0,none⟩=some (.slice Ao19 t360.length co19):=(blk_cell BK366.out 0).trans rfl;have hcz29_1:w28.cell? ⟨gb366,1,none⟩=some (.slice (some ⟨go8,0,none⟩) t363.length co18):=(blk_cell BK366.out 1).trans rfl;have hcz29_2:w28.cell? ⟨gb366,2,none⟩=some (.int .i64 a0_2):=(blk_cell BK366.out 2).trans rfl;have hfz29_0:=blk_frozen BK366.out 0;have hfz29_1:=blk_frozen BK366.out 1;have hfz29_2:=blk_frozen BK366.out 2;have hnb30:=NB359_358.out;have hnc30:=NB358_359.out;have hcz31_0:w28.cell? ⟨gb359,0,none⟩=some (.slice none 0 0):=(blk_cell BK359.out 0).trans rfl;have hcz31_1:w28.cell? ⟨gb359,1,none⟩=some (.slice none 0 0):=(blk_cell BK359.out 1).trans rfl;have hcz31_2:w28.cell? ⟨gb359,2,none⟩=some (.int .i64 0):=(blk_cell BK359.out 2).trans rfl;have hfz31_0:=blk_frozen BK359.out 0;have hfz31_1:=blk_frozen BK359.out 1;have hfz31_2:=blk_frozen BK359.out 2))
   refine bodyPost_ret (results_cell_row rfl _ _ gb359 29 #[.slice Ao19 t360.length co19, .slice (some ⟨go8,0,none⟩) t363.length co18, .int .i64 a0_2] (0,0) _ rfl (by (with_reducible repeat (first|refine kn' ?_ _|refine kd' ?_|refine ka' ?_ _));refine blk_put (cs:=#[.slice Ao19 t360.length co19, .slice (some ⟨go8,0,none⟩) t363.length co18, .int .i64 0]) ?_ 2 _ rfl;(with_reducible repeat (first|refine kn' ?_ _|refine kd' ?_|refine ka' ?_ _));refine blk_put (cs:=#[.slice Ao19 t360.length co19, .slice none 0 0, .int .i64 0]) ?_ 1 _ rfl;(with_reducible repeat (first|refine kn' ?_ _|refine kd' ?_|refine ka' ?_ _));refine blk_put (cs:=#[.slice none 0 0, .slice none 0 0, .int .i64 0]) ?_ 0 _ rfl;(with_reducible repeat (first|refine kn' ?_ _|refine kd' ?_|refine ka' ?_ _));exact BK359.out) Try.underlying29 rfl xk') rfl ?_
   exact ⟨_,_,by first|rfl|(simp[errW_none,errW_some] <;> rfl)|(simp[*,errW_none,errW_some] <;> rfl),by (with_reducible repeat (first|apply ra'|apply rn'|apply rw'));exact Kd.R_mono (Kd.R_far (p:=⟨gb359,2,none⟩) (Kd.R_far (p:=⟨gb359,1,none⟩) (Kd.R_far (p:=⟨gb359,0,none⟩) (Kd.R_types HO362.out BK359.out (by decide)) (fun _ hk=>hk.2) (.slice Ao19 t360.length co19)) (fun _ hk=>hk.2) (.slice (some ⟨go8,0,none⟩) t363.length co18)) (fun _ hk=>hk.2) (.int .i64 a0_2)) (fun _ hk=>trivial),by (with_reducible repeat (first|apply ra'|apply rn'|apply rw'));exact Kd.R_mono (Kd.R_far (p:=⟨gb359,2,none⟩) (Kd.R_far (p:=⟨gb359,1,none⟩) (Kd.R_far (p:=⟨gb359,0,none⟩) (Kd.R_types HO365.out BK359.out (by decide)) (fun _ hk=>hk.2) (.slice Ao19 t360.length co19)) (fun _ hk=>hk.2) (.slice (some ⟨go8,0,none⟩) t363.length co18)) (fun _ hk=>hk.2) (.int .i64 a0_2)) (fun _ hk=>trivial),by repeat (first|(with_reducible first|exact HB.out|apply ba'|apply bd'|apply be'|refine bs' ?_ GE358.out|refine bs' ?_ GE359.out|refine bs' ?_ GE366.out)|exact HB.out)⟩
  ·
   rw[if_neg c7] at H;exact absurd H (by simp)
 ·
  rw[if_neg c6] at H;exact absurd H (by simp)
def impl_NeededRowers.l0:Nat→List Int→Bool→List Bool→Int→Int→List Int→List Bool→Int→Option (List Int × Bool)
 | 0,_,_,_,_,_,_,_,_=>none
 | k+1,x4,x5,x15,x16,x17,x369000,x369001,x369002=>if x17 < x16 then (if 0≤x17 then (if x17 < (x15.length:Int) then (if rdOf false x15 x17=true then (if x5=true then ((impl_Crew_rowing.f x369000 x369001 x369002 x17 false).bind fun bt375=>((impl_Crew_plans.f k bt375.1 bt375.2.1 bt375.2.2).bind fun t382=>(if t382=true then (impl_NeededRowers.l0 k x4 x5 x15 x16 (wrap64 (x17+1)) x369000 x369001 x369002) else (if x4.length < 17592186044416 then (impl_NeededRowers.l0 k (x4 ++ [x17]) x5 x15 x16 (wrap64 (x17+1)) x369000 x369001 x369002) else (none))))) else (if x4.length < 17592186044416 then (impl_NeededRowers.l0 k (x4 ++ [x17]) x5 x15 x16 (wrap64 (x17+1)) x369000 x369001 x369002) else (none))) else (impl_NeededRowers.l0 k x4 x5 x15 x16 (wrap64 (x17+1)) x369000 x369001 x369002)) else (none)) else (none)) else (some (x4,true))
def impl_NeededRowers.f (k:Nat) (l0_0:List Int) (l0_1:List Bool) (a0_2:Int):Option (List Int × Bool):=(impl_IsCrew.f l0_0 l0_1 a0_2).bind fun t369=>(if t369=true then ((impl_Crew_plans.f k l0_0 l0_1 a0_2).bind fun t373=>(impl_NeededRowers.l0 k (([]:List Int)) t373 l0_1 (l0_1.length:Int) 0 l0_0 l0_1 a0_2)) else (some (([]:List Int),false)))
set_option maxHeartbeats 8000000 in
set_option maxRecDepth 100000 in
theorem impl_NeededRowers.calls (k:Nat) (A0_0:Option Addr) (c0_0:Nat) (l0_0:List Int) (A0_1:Option Addr) (c0_1:Nat) (l0_1:List Bool) (a0_2:Int) (r1:List Int) (r2:Bool) (w:World) (hr0_0:Kd.C (Kd.int .i64) w A0_0 l0_0.length l0_0) (hc0_0:l0_0.length≤c0_0) (hr0_1:Kd.C Kd.bool w A0_1 l0_1.length l0_1) (hc0_1:l0_1.length≤c0_1) (h:impl_NeededRowers.f k l0_0 l0_1 a0_2=some (r1,r2)) :
  Calls Try.prog 38 #[.agg #[.slice A0_0 l0_0.length c0_0, .slice A0_1 l0_1.length c0_1, .int .i64 a0_2]] w fun e w'=>∃ v0_:Value,e = .returned (.tuple #[v0_, .bool r2])∧Kd.R (Kd.int .i64) 3 w' w.heap.size (fun _=>True) v0_ r1∧Below w.heap.size w w':=by
 have hu29:=Try.underlying29
 have HR0_0:=am' hr0_0
 have HC0_0:=am' hc0_0
 clear hr0_0 hc0_0;have HR0_1:=am' hr0_1
 have HC0_1:=am' hc0_1
 clear hr0_1 hc0_1;have HB:=am' (Below.refl w.heap.size w)
 have H:((impl_IsCrew.f l0_0 l0_1 a0_2).bind fun t369=>(if t369=true then ((impl_Crew_plans.f k l0_0 l0_1 a0_2).bind fun t373=>(impl_NeededRowers.l0 k (([]:List Int)) t373 l0_1 (l0_1.length:Int) 0 l0_0 l0_1 a0_2)) else (some (([]:List Int),false))))=some (r1,r2):=h
 clear h;replace H:=Option.bind_eq_some_iff.mp H
 obtain ⟨t369,A20,H⟩:=H
 replace H:(if t369=true then ((impl_Crew_plans.f k l0_0 l0_1 a0_2).bind fun t373=>(impl_NeededRowers.l0 k (([]:List Int)) t373 l0_1 (l0_1.length:Int) 0 l0_0 l0_1 a0_2)) else (some (([]:List Int),false)))=some (r1,r2):=H
 have A2:=am' A20
 clear A20;by_cases c3:t369=true
 ·
  subst c3;have H1:((impl_Crew_plans.f k l0_0 l0_1 a0_2).bind fun t373=>(impl_NeededRowers.l0 k (([]:List Int)) t373 l0_1 (l0_1.length:Int) 0 l0_0 l0_1 a0_2))=some (r1,r2):=by rw[if_pos rfl] at H;exact H
  clear H;have H:=H1;clear H1;obtain ⟨y370,hy370⟩:∃ y_:List Int,y_=(([]:List Int)):=⟨_,rfl⟩
  replace H:((impl_Crew_plans.f k l0_0 l0_1 a0_2).bind fun t373=>(impl_NeededRowers.l0 k y370 t373 l0_1 (l0_1.length:Int) 0 l0_0 l0_1 a0_2))=some (r1,r2):=by first|(rw[hy370];with_reducible exact H)|(have H2_:=(Option.bind_some _ _).symm.trans H;rw[hy370];with_reducible exact H2_)|(have H2_:=(Option.bind_some _ _).symm.trans H;with_reducible exact H2_)|with_reducible exact H|(rw[hy370];exact H)|exact H
  have Ny370:=am' hy370;clear hy370;replace H:=Option.bind_eq_some_iff.mp H;obtain ⟨t373,A40,H⟩:=H;replace H:(impl_NeededRowers.l0 k y370 t373 l0_1 (l0_1.length:Int) 0 l0_0 l0_1 a0_2)=some (r1,r2):=H;have A4:=am' A40;clear A40;have H':=am' H;clear H;go_enter Try.func38,Try.ntmps38;go_wp2_with (first|((with_reducible refine gate_dst (N:=1) rfl ?_);refine box_event ?hg (N:=1) ?hd (cs:=#[.slice A0_0 l0_0.length c0_0, .slice A0_1 l0_1.length c0_1, .int .i64 a0_2]) (t:=29) ?hr ?_;(case hd=>rfl);(case hg=>rfl);(case hr=>first|(go_simp;done)|(go_simp;rfl));intro gb368 hg w5 hbox hb;have n0_:=am' (below_step xb' hb);have n1_:=am' (hbox);have n2_:=am' ((by rw[hg];exact (below_size xb'):w.heap.size≤gb368));have n3_:=am' ((by rw[hg];exact (below_size xb'):w.heap.size≤gb368));clear HB;have HB:=n0_;have BK368:=n1_;have GW368:=n2_;have GE368:=n3_;clear n0_ n1_ n2_ n3_;clear hb hbox hg;have hcz6_0:w5.cell? ⟨gb368,0,none⟩=some (.slice A0_0 l0_0.length c0_0):=(blk_cell BK368.out 0).trans rfl;have hcz6_1:w5.cell? ⟨gb368,1,none⟩=some (.slice A0_1 l0_1.length c0_1):=(blk_cell BK368.out 1).trans rfl;have hcz6_2:w5.cell? ⟨gb368,2,none⟩=some (.int .i64 a0_2):=(blk_cell BK368.out 2).trans rfl;have hfz6_0:=blk_frozen BK368.out 0;have hfz6_1:=blk_frozen BK368.out 1;have hfz6_2:=blk_frozen BK368.out 2)|((with_reducible refine gate_callee (f:=54) rfl ?_);refine goesL_ (some 9) rfl rfl Try.func54 xk' rfl #[.agg #[.slice A0_0 l0_0.length c0_0, .slice A0_1 l0_1.length c0_1, .int .i64 a0_2]] rfl xl' ?_;(with_reducible refine (impl_IsCrew.calls _ _ l0_0 _ _ l0_1 a0_2 true _ ?side1 ?side2 ?side3 ?side4 A2.out).mono ?_);(case side1=>repeat (first|exact (Kd.C_below HR0_0.out HB.out)|(with_reducible refine ca' ?_ _)|(with_reducible refine cn' ?_ _)|(with_reducible refine cd' ?_)));(case side2=>exact HC0_0.out);(case side3=>repeat (first|exact (Kd.C_below HR0_1.out HB.out)|(with_reducible refine ca' ?_ _)|(with_reducible refine cn' ?_ _)|(with_reducible refine cd' ?_)));(case side4=>exact HC0_1.out);rintro e w7 ⟨rfl,hb⟩;refine ⟨_,rfl,?_⟩;have n0_:=am' (blk_below (g:=gb368) (o := .cells #[.slice A0_0 l0_0.length c0_0, .slice A0_1 l0_1.length c0_1, .int .i64 a0_2] 29 (0,0)) (kk' BK368.out) hb);have n1_:=am' (below_step (yb' GE368.out) hb);clear BK368;clear HB;have BK368:=n0_;have HB:=n1_;clear n0_ n1_;(try clear hb);(try clear hb2);(try clear hk);(try clear hi))|((with_reducible refine gate_dst (N:=11) rfl ?_);refine Kd.R_lit (Kd.int .i64) _ 3 ?hg (N:=11) ?hd (xs:=([]:List Int)) (inner:=[]) (ok:=fun _=>True) (okp:=fun _=>True) ?hr ?hp (fun _ hk=>hk) trivial (Below.refl _ _) (Nat.le_refl _) (by simp) ?_;(case hd=>rfl);(case hg=>rfl);(case hr=>first|(go_simp;done)|(go_simp;rfl));(case hp=>exact (Reps.none _ _));intro v371 w8 ho9 hb hg_ hnew_;clear hg_ hnew_;(first|rw[← Ny370.out] at ho9|(simp only[Int.reduceToNat] at ho9;rw[← Ny370.out] at ho9));have n0_:=am' (Kd.R_lower ho9 (below_size (yb' GE368.out)));have n1_:=am' (blk_below (g:=gb368) (o := .cells #[.slice A0_0 l0_0.length c0_0, .slice A0_1 l0_1.length c0_1, .int .i64 a0_2] 29 (0,0)) (kk' BK368.out) hb);have n2_:=am' (below_step (yb' GE368.out) hb);clear BK368;clear HB;have HO372:=n0_;have BK368:=n1_;have HB:=n2_;clear n0_ n1_ n2_;clear hb ho9;have hcz10_0:w8.cell? ⟨gb368,0,none⟩=some (.slice A0_0 l0_0.length c0_0):=(blk_cell BK368.out 0).trans rfl;have hcz10_1:w8.cell? ⟨gb368,1,none⟩=some (.slice A0_1 l0_1.length c0_1):=(blk_cell BK368.out 1).trans rfl;have hcz10_2:w8.cell? ⟨gb368,2,none⟩=some (.int .i64 a0_2):=(blk_cell BK368.out 2).trans rfl;have hfz10_0:=blk_frozen BK368.out 0;have hfz10_1:=blk_frozen BK368.out 1;have hfz10_2:=blk_frozen BK368.out 2)|((with_reducible refine gate_callee (f:=76) rfl ?_);refine goesL_ (some 13) rfl rfl Try.func76 xk' rfl #[.agg #[.slice A0_0 l0_0.length c0_0, .slice A0_1 l0_1.length c0_1, .int .i64 a0_2]] rfl xl' ?_;(with_reducible refine (impl_Crew_plans.calls k _ _ l0_0 _ _ l0_1 a0_2 t373 _ ?side1 ?side2 ?side3 ?side4 A4.out).mono ?_);(case side1=>repeat (first|exact (Kd.C_below HR0_0.out HB.out)|(with_reducible refine ca' ?_ _)|(with_reducible refine cn' ?_ _)|(with_reducible refine cd' ?_)));(case side2=>exact HC0_0.out);(case side3=>repeat (first|exact (Kd.C_below HR0_1.out HB.out)|(with_reducible refine ca' ?_ _)|(with_reducible refine cn' ?_ _)|(with_reducible refine cd' ?_)));(case side4=>exact HC0_1.out);rintro e w11 ⟨rfl,hb⟩;refine ⟨_,rfl,?_⟩;have n0_:=am' (Kd.R_below (kr' HO372.out) hb);have n1_:=am' (blk_below (g:=gb368) (o := .cells #[.slice A0_0 l0_0.length c0_0, .slice A0_1 l0_1.length c0_1, .int .i64 a0_2] 29 (0,0)) (kk' BK368.out) hb);have n2_:=am' (below_step (yb' GE368.out) hb);clear HO372;clear BK368;clear HB;have HO372:=n0_;have BK368:=n1_;have HB:=n2_;clear n0_ n1_ n2_;(try clear hb);(try clear hb2);(try clear hk);(try clear hi);have hcz12_0:w11.cell? ⟨gb368,0,none⟩=some (.slice A0_0 l0_0.length c0_0):=(blk_cell BK368.out 0).trans rfl;have hcz12_1:w11.cell? ⟨gb368,1,none⟩=some (.slice A0_1 l0_1.length c0_1):=(blk_cell BK368.out 1).trans rfl;have hcz12_2:w11.cell? ⟨gb368,2,none⟩=some (.int .i64 a0_2):=(blk_cell BK368.out 2).trans rfl;have hfz12_0:=blk_frozen BK368.out 0;have hfz12_1:=blk_frozen BK368.out 1;have hfz12_2:=blk_frozen BK368.out 2))
  go_loopg [4,17] k (fun kq v4 v17 w'=>∃ (x4_1:List Int) (x17_1:Int),v17 = .int .i64 x17_1∧Aside0 (impl_NeededRowers.l0 kq x4_1 t373 l0_1 (l0_1.length:Int) x17_1 l0_0 l0_1 a0_2=some (r1,r2))∧Aside0 (kq≤k)∧Aside0 (Kd.R (Kd.int .i64) 3 w' w.heap.size (fun _=>True) v4 x4_1)∧Aside0 (w'.heap[gb368]? = some (.cells #[(.slice A0_0 l0_0.length c0_0),(.slice A0_1 l0_1.length c0_1), .int .i64 a0_2] 29 (0,0)))∧Aside0 (Below w.heap.size w w'))
  case atStart=>exact ⟨(y370),(0),xs',H',⟨Nat.le_refl _⟩,⟨by (with_reducible repeat (first|apply ra'|apply rn'|apply rw'));exact HO372.out⟩,⟨by (with_reducible repeat (first|refine kn' ?_ _|refine kd' ?_|refine ka' ?_ _));exact BK368.out⟩,⟨by repeat (first|(with_reducible first|exact HB.out|apply ba'|apply bd'|apply be'|refine bs' ?_ GE368.out)|exact HB.out)⟩⟩
  case round =>
   clear H';try clear p2
   try clear c3
   try clear c5
   try clear c7
   try clear hcz10_0
   try clear hcz10_1
   try clear hcz10_2
   try clear hcz12_0
   try clear hcz12_1
   try clear hcz12_2
   try clear hcz6_0
   try clear hcz6_1
   try clear hcz6_2
   try clear hfz10_0
   try clear hfz10_1
   try clear hfz10_2
   try clear hfz12_0
   try clear hfz12_1
   try clear hfz12_2
   try clear hfz6_0
   try clear hfz6_1
   try clear hfz6_2
   obtain ⟨x4_1,x17_1,rfl,HA,HK1,HO_4,BK368,HB⟩:=hrel;cases gk with
   | zero=>exact absurd HA.out (by simp[impl_NeededRowers.l0])
   | succ k1 =>
    have H:=HA.out;clear HA;simp only[impl_NeededRowers.l0] at H;by_cases c13:x17_1 < (l0_1.length:Int)
    ·
     rw[if_pos c13] at H;have c13b0:decide (x17_1 < (l0_1.length:Int))=true:=decide_eq_true c13;clear c13;by_cases c14:0≤x17_1
     ·
      rw[if_pos c14] at H;have c14b0:decide (0≤x17_1)=true:=decide_eq_true c14;clear c14;by_cases c15:x17_1 < (l0_1.length:Int)
      ·
       rw[if_pos c15] at H;have c15b0:decide (x17_1 < (l0_1.length:Int))=true:=decide_eq_true c15;clear c15;obtain ⟨bq16,hbq16⟩:∃ b_:Bool,b_=(rdOf false l0_1 x17_1):=⟨_,rfl⟩
       replace H:(if bq16=true then (if t373=true then ((impl_Crew_rowing.f l0_0 l0_1 a0_2 x17_1 false).bind fun bt375=>((impl_Crew_plans.f k1 bt375.1 bt375.2.1 bt375.2.2).bind fun t382=>(if t382=true then (impl_NeededRowers.l0 k1 x4_1 t373 l0_1 (l0_1.length:Int) (wrap64 (x17_1+1)) l0_0 l0_1 a0_2) else (if x4_1.length < 17592186044416 then (impl_NeededRowers.l0 k1 (x4_1 ++ [x17_1]) t373 l0_1 (l0_1.length:Int) (wrap64 (x17_1+1)) l0_0 l0_1 a0_2) else (none))))) else (if x4_1.length < 17592186044416 then (impl_NeededRowers.l0 k1 (x4_1 ++ [x17_1]) t373 l0_1 (l0_1.length:Int) (wrap64 (x17_1+1)) l0_0 l0_1 a0_2) else (none))) else (impl_NeededRowers.l0 k1 x4_1 t373 l0_1 (l0_1.length:Int) (wrap64 (x17_1+1)) l0_0 l0_1 a0_2))=some (r1,r2):=by rw[← hbq16] at H;exact H
       have Nbq16:=am' hbq16;clear hbq16;by_cases c17:bq16=true
       ·
        subst c17;have H1:(if t373=true then ((impl_Crew_rowing.f l0_0 l0_1 a0_2 x17_1 false).bind fun bt375=>((impl_Crew_plans.f k1 bt375.1 bt375.2.1 bt375.2.2).bind fun t382=>(if t382=true then (impl_NeededRowers.l0 k1 x4_1 t373 l0_1 (l0_1.length:Int) (wrap64 (x17_1+1)) l0_0 l0_1 a0_2) else (if x4_1.length < 17592186044416 then (impl_NeededRowers.l0 k1 (x4_1 ++ [x17_1]) t373 l0_1 (l0_1.length:Int) (wrap64 (x17_1+1)) l0_0 l0_1 a0_2) else (none))))) else (if x4_1.length < 17592186044416 then (impl_NeededRowers.l0 k1 (x4_1 ++ [x17_1]) t373 l0_1 (l0_1.length:Int) (wrap64 (x17_1+1)) l0_0 l0_1 a0_2) else (none)))=some (r1,r2):=by rw[if_pos rfl] at H;exact H
        clear H;have H:=H1;clear H1;by_cases c18:t373=true
        ·
         subst c18;have H1:((impl_Crew_rowing.f l0_0 l0_1 a0_2 x17_1 false).bind fun bt375=>((impl_Crew_plans.f k1 bt375.1 bt375.2.1 bt375.2.2).bind fun t382=>(if t382=true then (impl_NeededRowers.l0 k1 x4_1 true l0_1 (l0_1.length:Int) (wrap64 (x17_1+1)) l0_0 l0_1 a0_2) else (if x4_1.length < 17592186044416 then (impl_NeededRowers.l0 k1 (x4_1 ++ [x17_1]) true l0_1 (l0_1.length:Int) (wrap64 (x17_1+1)) l0_0 l0_1 a0_2) else (none)))))=some (r1,r2):=by rw[if_pos rfl] at H;exact H
         clear H;have H:=H1;clear H1;replace H:=Option.bind_eq_some_iff.mp H;obtain ⟨⟨t375,t378,t381⟩,A190,H⟩:=H;replace H:((impl_Crew_plans.f k1 t375 t378 t381).bind fun t382=>(if t382=true then (impl_NeededRowers.l0 k1 x4_1 true l0_1 (l0_1.length:Int) (wrap64 (x17_1+1)) l0_0 l0_1 a0_2) else (if x4_1.length < 17592186044416 then (impl_NeededRowers.l0 k1 (x4_1 ++ [x17_1]) true l0_1 (l0_1.length:Int) (wrap64 (x17_1+1)) l0_0 l0_1 a0_2) else (none))))=some (r1,r2):=H;have A19:=am' A190;clear A190;replace H:=Option.bind_eq_some_iff.mp H;obtain ⟨t382,A200,H⟩:=H;replace H:(if t382=true then (impl_NeededRowers.l0 k1 x4_1 true l0_1 (l0_1.length:Int) (wrap64 (x17_1+1)) l0_0 l0_1 a0_2) else (if x4_1.length < 17592186044416 then (impl_NeededRowers.l0 k1 (x4_1 ++ [x17_1]) true l0_1 (l0_1.length:Int) (wrap64 (x17_1+1)) l0_0 l0_1 a0_2) else (none)))=some (r1,r2):=H;have A20:=am' A200;clear A200;by_cases c21:t382=true
         ·
          subst c21;have H1:(impl_NeededRowers.l0 k1 x4_1 true l0_1 (l0_1.length:Int) (wrap64 (x17_1+1)) l0_0 l0_1 a0_2)=some (r1,r2):=by rw[if_pos rfl] at H;exact H
          clear H;have H:=H1;clear H1;have H':=am' H;clear H;have p374:0≤(x17_1:Int):=of_decide_eq_true xa';have q374:x17_1 < (l0_1.length:Int):=of_decide_eq_true xa';obtain ⟨ad374,e374,hx374_0⟩:=Kd.at_bool HR0_1.out x17_1 p374 q374
          (try rw [← Nbq16.out] at hx374_0)
          cases e374
          replace hx374_0:=(HB.out.cell (bl' w _ hx374_0)).trans hx374_0;replace p374:=eq_true p374;replace q374:=eq_true q374;have hcz22_0:wr.cell? ⟨gb368,0,none⟩=some (.slice A0_0 l0_0.length c0_0):=(blk_cell BK368.out 0).trans rfl;have hcz22_1:wr.cell? ⟨gb368,1,none⟩=some (.slice (some ad374) l0_1.length c0_1):=(blk_cell BK368.out 1).trans rfl;have hcz22_2:wr.cell? ⟨gb368,2,none⟩=some (.int .i64 a0_2):=(blk_cell BK368.out 2).trans rfl;have hfz22_0:=blk_frozen BK368.out 0;have hfz22_1:=blk_frozen BK368.out 1;have hfz22_2:=blk_frozen BK368.out 2;go_wp2_with (first|(go_at_call 77;(with_reducible refine (impl_Crew_rowing.calls _ _ l0_0 _ _ l0_1 a0_2 x17_1 false t375 t378 t381 _ ?side1 ?side2 ?side3 ?side4 A19.out).mono ?_);(case side1=>repeat (first|exact (Kd.C_below HR0_0.out HB.out)|(with_reducible refine ca' ?_ _)|(with_reducible refine cn' ?_ _)|(with_reducible refine cd' ?_)));(case side2=>exact HC0_0.out);(case side3=>repeat (first|exact (Kd.C_below HR0_1.out HB.out)|(with_reducible refine ca' ?_ _)|(with_reducible refine cn' ?_ _)|(with_reducible refine cd' ?_)));(case side4=>exact HC0_1.out);rintro e w23 ⟨v376,v379,rfl,ho0,ho1,hb⟩;have n0_:=am' (Kd.R_elder' (kr' HO_4.out) (Kd.R_base ho0) hb);have n1_:=am' (Kd.R_lower (Kd.R_new' ho0 (Kd.R_lt (kr' HO_4.out))) (below_size (yb' GE368.out)));have n2_:=am' (Kd.R_lower ho1 (below_size (yb' GE368.out)));have n3_:=am' (blk_below (g:=gb368) (o := .cells #[.slice A0_0 l0_0.length c0_0, .slice (some ad374) l0_1.length c0_1, .int .i64 a0_2] 29 (0,0)) (kk' BK368.out) hb);have n4_:=am' (below_step (yb' GE368.out) hb);clear HO_4;clear BK368;clear HB;have HO_4:=n0_;have HO377:=n1_;have HO380:=n2_;have BK368:=n3_;have HB:=n4_;clear n0_ n1_ n2_ n3_ n4_;(try clear hb);(try clear hb2);(try clear hk);(try clear hi);(try clear ho0);(try clear ho1);obtain ⟨Ao24,co24,eo24⟩:=Kd.R_slice HO377.out;subst eo24;obtain ⟨Ao25,co25,eo25⟩:=Kd.R_slice HO380.out;subst eo25)|(go_at_call 76;(with_reducible refine (impl_Crew_plans.calls k1 _ _ t375 _ _ t378 t381 true _ ?side1 ?side2 ?side3 ?side4 A20.out).mono ?_);(case side1=>repeat (first|exact (Kd.R_reads' HO377.out).2.2|(with_reducible refine ca' ?_ _)|(with_reducible refine cn' ?_ _)|(with_reducible refine cd' ?_)));(case side2=>exact (Kd.R_reads' HO377.out).2.1);(case side3=>repeat (first|exact (Kd.R_reads' HO380.out).2.2|(with_reducible refine ca' ?_ _)|(with_reducible refine cn' ?_ _)|(with_reducible refine cd' ?_)));(case side4=>exact (Kd.R_reads' HO380.out).2.1);rintro e w26 ⟨rfl,hb⟩;have n0_:=am' (Kd.R_below (kr' HO_4.out) hb);have n1_:=am' (Kd.R_below (kr' HO377.out) hb);have n2_:=am' (Kd.R_below (kr' HO380.out) hb);have n3_:=am' (blk_below (g:=gb368) (o := .cells #[.slice A0_0 l0_0.length c0_0, .slice (some ad374) l0_1.length c0_1, .int .i64 a0_2] 29 (0,0)) (kk' BK368.out) hb);have n4_:=am' (below_step (yb' GE368.out) hb);clear HO_4;clear HO377;clear HO380;clear BK368;clear HB;have HO_4:=n0_;have HO377:=n1_;have HO380:=n2_;have BK368:=n3_;have HB:=n4_;clear n0_ n1_ n2_ n3_ n4_;(try clear hb);(try clear hb2);(try clear hk);(try clear hi)))
          go_roundg k1
          case measure=>have:=HK1.out;omega
          case rel=>exact ⟨(x4_1),(wrap64 (x17_1+1)),xs',H',⟨by have:=HK1.out;omega⟩,⟨by (with_reducible repeat (first|apply ra'|apply rn'|apply rw'));exact Kd.R_mono HO_4.out (fun _ hk=>trivial)⟩,⟨by (with_reducible repeat (first|refine kn' ?_ _|refine kd' ?_|refine ka' ?_ _));exact BK368.out⟩,⟨by repeat (first|(with_reducible first|exact HB.out|apply ba'|apply bd'|apply be'|refine bs' ?_ GE368.out)|exact HB.out)⟩⟩
         ·
          replace c21:=Bool.eq_false_iff.mpr c21;subst c21;have H1:(if x4_1.length < 17592186044416 then (impl_NeededRowers.l0 k1 (x4_1 ++ [x17_1]) true l0_1 (l0_1.length:Int) (wrap64 (x17_1+1)) l0_0 l0_1 a0_2) else (none))=some (r1,r2):=by rw[if_neg (show ¬ (false=true) by decide)] at H;exact H
          clear H;have H:=H1;clear H1;by_cases c27:x4_1.length < 17592186044416
          ·
           rw[if_pos c27] at H;have LMc27:=am' c27;clear c27;obtain ⟨y383,hy383⟩:∃ y_:List Int,y_=(x4_1 ++ [x17_1]):=⟨_,rfl⟩
           replace H:(impl_NeededRowers.l0 k1 y383 true l0_1 (l0_1.length:Int) (wrap64 (x17_1+1)) l0_0 l0_1 a0_2)=some (r1,r2):=by first|(rw[hy383];with_reducible exact H)|(have H2_:=(Option.bind_some _ _).symm.trans H;rw[hy383];with_reducible exact H2_)|(have H2_:=(Option.bind_some _ _).symm.trans H;with_reducible exact H2_)|with_reducible exact H|(rw[hy383];exact H)|exact H
           have Ny383:=am' hy383;clear hy383;have H':=am' H;clear H;have p374:0≤(x17_1:Int):=of_decide_eq_true xa';have q374:x17_1 < (l0_1.length:Int):=of_decide_eq_true xa';obtain ⟨ad374,e374,hx374_0⟩:=Kd.at_bool HR0_1.out x17_1 p374 q374
           (try rw [← Nbq16.out] at hx374_0)
           cases e374
           replace hx374_0:=(HB.out.cell (bl' w _ hx374_0)).trans hx374_0;replace p374:=eq_true p374;replace q374:=eq_true q374;have hcz28_0:wr.cell? ⟨gb368,0,none⟩=some (.slice A0_0 l0_0.length c0_0):=(blk_cell BK368.out 0).trans rfl;have hcz28_1:wr.cell? ⟨gb368,1,none⟩=some (.slice (some ad374) l0_1.length c0_1):=(blk_cell BK368.out 1).trans rfl;have hcz28_2:wr.cell? ⟨gb368,2,none⟩=some (.int .i64 a0_2):=(blk_cell BK368.out 2).trans rfl;have hfz28_0:=blk_frozen BK368.out 0;have hfz28_1:=blk_frozen BK368.out 1;have hfz28_2:=blk_frozen BK368.out 2;go_wp2_with (first|(go_at_call 77;(with_reducible refine (impl_Crew_rowing.calls _ _ l0_0 _ _ l0_1 a0_2 x17_1 false t375 t378 t381 _ ?side1 ?side2 ?side3 ?side4 A19.out).mono ?_);(case side1=>repeat (first|exact (Kd.C_below HR0_0.out HB.out)|(with_reducible refine ca' ?_ _)|(with_reducible refine cn' ?_ _)|(with_reducible refine cd' ?_)));(case side2=>exact HC0_0.out);(case side3=>repeat (first|exact (Kd.C_below HR0_1.out HB.out)|(with_reducible refine ca' ?_ _)|(with_reducible refine cn' ?_ _)|(with_reducible refine cd' ?_)));(case side4=>exact HC0_1.out);rintro e w29 ⟨v376,v379,rfl,ho0,ho1,hb⟩;have n0_:=am' (Kd.R_elder' (kr' HO_4.out) (Kd.R_base ho0) hb);have n1_:=am' (Kd.R_lower (Kd.R_new' ho0 (Kd.R_lt (kr' HO_4.out))) (below_size (yb' GE368.out)));have n2_:=am' (Kd.R_lower ho1 (below_size (yb' GE368.out)));have n3_:=am' (blk_below (g:=gb368) (o := .cells #[.slice A0_0 l0_0.length c0_0, .slice (some ad374) l0_1.length c0_1, .int .i64 a0_2] 29 (0,0)) (kk' BK368.out) hb);have n4_:=am' (below_step (yb' GE368.out) hb);clear HO_4;clear BK368;clear HB;have HO_4:=n0_;have HO377:=n1_;have HO380:=n2_;have BK368:=n3_;have HB:=n4_;clear n0_ n1_ n2_ n3_ n4_;(try clear hb);(try clear hb2);(try clear hk);(try clear hi);(try clear ho0);(try clear ho1);obtain ⟨Ao30,co30,eo30⟩:=Kd.R_slice HO377.out;subst eo30;obtain ⟨Ao31,co31,eo31⟩:=Kd.R_slice HO380.out;subst eo31)|(go_at_call 76;(with_reducible refine (impl_Crew_plans.calls k1 _ _ t375 _ _ t378 t381 false _ ?side1 ?side2 ?side3 ?side4 A20.out).mono ?_);(case side1=>repeat (first|exact (Kd.R_reads' HO377.out).2.2|(with_reducible refine ca' ?_ _)|(with_reducible refine cn' ?_ _)|(with_reducible refine cd' ?_)));(case side2=>exact (Kd.R_reads' HO377.out).2.1);(case side3=>repeat (first|exact (Kd.R_reads' HO380.out).2.2|(with_reducible refine ca' ?_ _)|(with_reducible refine cn' ?_ _)|(with_reducible refine cd' ?_)));(case side4=>exact (Kd.R_reads' HO380.out).2.1);rintro e w32 ⟨rfl,hb⟩;have n0_:=am' (Kd.R_below (kr' HO_4.out) hb);have n1_:=am' (Kd.R_below (kr' HO377.out) hb);have n2_:=am' (Kd.R_below (kr' HO380.out) hb);have n3_:=am' (blk_below (g:=gb368) (o := .cells #[.slice A0_0 l0_0.length c0_0, .slice (some ad374) l0_1.length c0_1, .int .i64 a0_2] 29 (0,0)) (kk' BK368.out) hb);have n4_:=am' (below_step (yb' GE368.out) hb);clear HO_4;clear HO377;clear HO380;clear BK368;clear HB;have HO_4:=n0_;have HO377:=n1_;have HO380:=n2_;have BK368:=n3_;have HB:=n4_;clear n0_ n1_ n2_ n3_ n4_;(try clear hb);(try clear hb2);(try clear hk);(try clear hi))|((with_reducible refine gate_builtin (b := .append) (xs:=#[.tmp 34, .tmp 36]) rfl ?_);at_builtin;refine Kd.R_append (Kd.int .i64) (w0:=w) w.heap.size rfl (.tmp 34) (.tmp 36) 22 3 (.int .i64 0) 8 rfl Try.underlying22 info3 rfl (by decide) (by omega) u4 x4_1 x17_1 [.int .i64 x17_1] (fun k_=>some k_≠(.slice Ao30 t375.length co30:Value).ownBlock) (fun _=>False) rfl rfl ?aP (fun _ hk=>hk.elim) ?aF ?aO ?aB ?aS ?aL ?_;(case aP=>exact rfl);(case aB=>exact (yb' GE368.out));(case aF=>exact (fun k_ hk=>Kd.fresh' (Kd.R_lt (kr' HO377.out)) k_ hk));(case aO=>exact (by (with_reducible repeat (first|apply ra'|apply rn'|apply rw'));exact Kd.R_mono HO_4.out (fun _ hk=>hk.2)));(case aS=>exact (below_size (yb' GE368.out)));(case aL=>have:=LMc27.out;omega);intro v384 w33 ho hb hg hat;rw[← Ny383.out] at ho;have n0_:=am' (blk_grown (g:=gb368) (o := .cells #[.slice A0_0 l0_0.length c0_0, .slice (some ad374) l0_1.length c0_1, .int .i64 a0_2] 29 (0,0)) (kk' BK368.out) hg (Kd.R_ne HO_4.out BK368.out (by decide)));have n1_:=am' (Kd.R_after (ok:=(fun _=>True)) (kr' HO377.out) hg hat);have n2_:=am' (Kd.R_over' (kr' HO380.out) (Kd.R_typed (kr' HO_4.out)) (by decide) hg);have n3_:=am' (hb);have n4_:=am' (ho);clear BK368;clear HO377;clear HO380;clear HB;clear HO_4;have BK368:=n0_;have HO377:=n1_;have HO380:=n2_;have HB:=n3_;have HO385:=n4_;clear n0_ n1_ n2_ n3_ n4_;clear ho hb hg hat))
           go_roundg k1
           case measure=>have:=HK1.out;omega
           case rel=>exact ⟨(y383),(wrap64 (x17_1+1)),xs',H',⟨by have:=HK1.out;omega⟩,⟨by (with_reducible repeat (first|apply ra'|apply rn'|apply rw'));exact Kd.R_mono HO385.out (fun _ hk=>trivial)⟩,⟨by (with_reducible repeat (first|refine kn' ?_ _|refine kd' ?_|refine ka' ?_ _));exact BK368.out⟩,⟨by repeat (first|(with_reducible first|exact HB.out|apply ba'|apply bd'|apply be'|refine bs' ?_ GE368.out)|exact HB.out)⟩⟩
          ·
           rw[if_neg c27] at H;exact absurd H (by simp)
        ·
         replace c18:=Bool.eq_false_iff.mpr c18;subst c18;have H1:(if x4_1.length < 17592186044416 then (impl_NeededRowers.l0 k1 (x4_1 ++ [x17_1]) false l0_1 (l0_1.length:Int) (wrap64 (x17_1+1)) l0_0 l0_1 a0_2) else (none))=some (r1,r2):=by rw[if_neg (show ¬ (false=true) by decide)] at H;exact H
         clear H;have H:=H1;clear H1;by_cases c34:x4_1.length < 17592186044416
         ·
          rw[if_pos c34] at H;have LMc34:=am' c34;clear c34;obtain ⟨y386,hy386⟩:∃ y_:List Int,y_=(x4_1 ++ [x17_1]):=⟨_,rfl⟩
          replace H:(impl_NeededRowers.l0 k1 y386 false l0_1 (l0_1.length:Int) (wrap64 (x17_1+1)) l0_0 l0_1 a0_2)=some (r1,r2):=by first|(rw[hy386];with_reducible exact H)|(have H2_:=(Option.bind_some _ _).symm.trans H;rw[hy386];with_reducible exact H2_)|(have H2_:=(Option.bind_some _ _).symm.trans H;with_reducible exact H2_)|with_reducible exact H|(rw[hy386];exact H)|exact H
          have Ny386:=am' hy386;clear hy386;have H':=am' H;clear H;have p374:0≤(x17_1:Int):=of_decide_eq_true xa';have q374:x17_1 < (l0_1.length:Int):=of_decide_eq_true xa';obtain ⟨ad374,e374,hx374_0⟩:=Kd.at_bool HR0_1.out x17_1 p374 q374
          (try rw [← Nbq16.out] at hx374_0)
          cases e374
          replace hx374_0:=(HB.out.cell (bl' w _ hx374_0)).trans hx374_0;replace p374:=eq_true p374;replace q374:=eq_true q374;go_wp2_with (first|((with_reducible refine gate_builtin (b := .append) (xs:=#[.tmp 34, .tmp 36]) rfl ?_);at_builtin;refine Kd.R_append (Kd.int .i64) (w0:=w) w.heap.size rfl (.tmp 34) (.tmp 36) 22 3 (.int .i64 0) 8 rfl Try.underlying22 info3 rfl (by decide) (by omega) u4 x4_1 x17_1 [.int .i64 x17_1] (fun _=>True) (fun _=>False) rfl rfl ?aP (fun _ hk=>hk.elim) ?aF ?aO ?aB ?aS ?aL ?_;(case aP=>exact rfl);(case aB=>exact (yb' GE368.out));(case aF=>exact (fun _ _=>trivial));(case aO=>exact (kr' HO_4.out));(case aS=>exact (below_size (yb' GE368.out)));(case aL=>have:=LMc34.out;omega);intro v387 w35 ho hb hg hat;rw[← Ny386.out] at ho;have n0_:=am' (blk_grown (g:=gb368) (o := .cells #[.slice A0_0 l0_0.length c0_0, .slice (some ad374) l0_1.length c0_1, .int .i64 a0_2] 29 (0,0)) (kk' BK368.out) hg (Kd.R_ne HO_4.out BK368.out (by decide)));have n1_:=am' (hb);have n2_:=am' (ho);clear BK368;clear HB;clear HO_4;have BK368:=n0_;have HB:=n1_;have HO388:=n2_;clear n0_ n1_ n2_;clear ho hb hg hat));go_roundg k1
          case measure=>have:=HK1.out;omega
          case rel=>exact ⟨(y386),(wrap64 (x17_1+1)),xs',H',⟨by have:=HK1.out;omega⟩,⟨by (with_reducible repeat (first|apply ra'|apply rn'|apply rw'));exact HO388.out⟩,⟨by (with_reducible repeat (first|refine kn' ?_ _|refine kd' ?_|refine ka' ?_ _));exact BK368.out⟩,⟨by repeat (first|(with_reducible first|exact HB.out|apply ba'|apply bd'|apply be'|refine bs' ?_ GE368.out)|exact HB.out)⟩⟩
         ·
          rw[if_neg c34] at H;exact absurd H (by simp)
       ·
        replace c17:=Bool.eq_false_iff.mpr c17;subst c17;have H1:(impl_NeededRowers.l0 k1 x4_1 t373 l0_1 (l0_1.length:Int) (wrap64 (x17_1+1)) l0_0 l0_1 a0_2)=some (r1,r2):=by rw[if_neg (show ¬ (false=true) by decide)] at H;exact H
        clear H;have H:=H1;clear H1;have H':=am' H;clear H;have p374:0≤(x17_1:Int):=of_decide_eq_true xa';have q374:x17_1 < (l0_1.length:Int):=of_decide_eq_true xa';obtain ⟨ad374,e374,hx374_0⟩:=Kd.at_bool HR0_1.out x17_1 p374 q374
        (try rw [← Nbq16.out] at hx374_0)
        cases e374
        replace hx374_0:=(HB.out.cell (bl' w _ hx374_0)).trans hx374_0;replace p374:=eq_true p374;replace q374:=eq_true q374;go_wp2;go_roundg k1
        case measure=>have:=HK1.out;omega
        case rel=>exact ⟨(x4_1),(wrap64 (x17_1+1)),xs',H',⟨by have:=HK1.out;omega⟩,⟨by (with_reducible repeat (first|apply ra'|apply rn'|apply rw'));exact HO_4.out⟩,⟨by (with_reducible repeat (first|refine kn' ?_ _|refine kd' ?_|refine ka' ?_ _));exact BK368.out⟩,⟨by repeat (first|(with_reducible first|exact HB.out|apply ba'|apply bd'|apply be'|refine bs' ?_ GE368.out)|exact HB.out)⟩⟩
      ·
       rw[if_neg c15] at H;exact absurd H (by simp)
     ·
      rw[if_neg c14] at H;exact absurd H (by simp)
    ·
     rw[if_neg c13] at H;have c13b0:decide (x17_1 < (l0_1.length:Int))=false:=decide_eq_false c13;clear c13;simp only[Option.some.injEq,Prod.mk.injEq] at H;obtain ⟨rfl,rfl⟩:=H;go_wp2;go_ret2
     exact ⟨_,by first|rfl|(simp[errW_none,errW_some] <;> rfl)|(simp[*,errW_none,errW_some] <;> rfl),by (with_reducible repeat (first|apply ra'|apply rn'|apply rw'));exact HO_4.out,by repeat (first|(with_reducible first|exact HB.out|apply ba'|apply bd'|apply be'|refine bs' ?_ GE368.out)|exact HB.out)⟩
 ·
  replace c3:=Bool.eq_false_iff.mpr c3;subst c3;have H1:(some (([]:List Int),false))=some (r1,r2):=by rw[if_neg (show ¬ (false=true) by decide)] at H;exact H
  clear H;have H:=H1;clear H1;simp only[Option.some.injEq,Prod.mk.injEq] at H;obtain ⟨rfl,rfl⟩:=H;go_enter Try.func38,Try.ntmps38;go_wp2_with (first|((with_reducible refine gate_dst (N:=1) rfl ?_);refine box_event ?hg (N:=1) ?hd (cs:=#[.slice A0_0 l0_0.length c0_0, .slice A0_1 l0_1.length c0_1, .int .i64 a0_2]) (t:=29) ?hr ?_;(case hd=>rfl);(case hg=>rfl);(case hr=>first|(go_simp;done)|(go_simp;rfl));intro gb368 hg w36 hbox hb;have n0_:=am' (below_step xb' hb);have n1_:=am' (hbox);have n2_:=am' ((by rw[hg];exact (below_size xb'):w.heap.size≤gb368));have n3_:=am' ((by rw[hg];exact (below_size xb'):w.heap.size≤gb368));clear HB;have HB:=n0_;have BK368:=n1_;have GW368:=n2_;have GE368:=n3_;clear n0_ n1_ n2_ n3_;clear hb hbox hg;have hcz37_0:w36.cell? ⟨gb368,0,none⟩=some (.slice A0_0 l0_0.length c0_0):=(blk_cell BK368.out 0).trans rfl;have hcz37_1:w36.cell? ⟨gb368,1,none⟩=some (.slice A0_1 l0_1.length c0_1):=(blk_cell BK368.out 1).trans rfl;have hcz37_2:w36.cell? ⟨gb368,2,none⟩=some (.int .i64 a0_2):=(blk_cell BK368.out 2).trans rfl;have hfz37_0:=blk_frozen BK368.out 0;have hfz37_1:=blk_frozen BK368.out 1;have hfz37_2:=blk_frozen BK368.out 2)|((with_reducible refine gate_callee (f:=54) rfl ?_);refine goesL_ (some 9) rfl rfl Try.func54 xk' rfl #[.agg #[.slice A0_0 l0_0.length c0_0, .slice A0_1 l0_1.length c0_1, .int .i64 a0_2]] rfl xl' ?_;(with_reducible refine (impl_IsCrew.calls _ _ l0_0 _ _ l0_1 a0_2 false _ ?side1 ?side2 ?side3 ?side4 A2.out).mono ?_);(case side1=>repeat (first|exact (Kd.C_below HR0_0.out HB.out)|(with_reducible refine ca' ?_ _)|(with_reducible refine cn' ?_ _)|(with_reducible refine cd' ?_)));(case side2=>exact HC0_0.out);(case side3=>repeat (first|exact (Kd.C_below HR0_1.out HB.out)|(with_reducible refine ca' ?_ _)|(with_reducible refine cn' ?_ _)|(with_reducible refine cd' ?_)));(case side4=>exact HC0_1.out);rintro e w38 ⟨rfl,hb⟩;refine ⟨_,rfl,?_⟩;have n0_:=am' (blk_below (g:=gb368) (o := .cells #[.slice A0_0 l0_0.length c0_0, .slice A0_1 l0_1.length c0_1, .int .i64 a0_2] 29 (0,0)) (kk' BK368.out) hb);have n1_:=am' (below_step (yb' GE368.out) hb);clear BK368;clear HB;have BK368:=n0_;have HB:=n1_;clear n0_ n1_;(try clear hb);(try clear hb2);(try clear hk);(try clear hi)))
  go_ret2
  exact ⟨_,by first|rfl|(simp[errW_none,errW_some] <;> rfl)|(simp[*,errW_none,errW_some] <;> rfl),by first|exact Kd.R_nil _ _ _ _ _|exact Kd.N_nil _ _ _ _ _|exact Kd.V_nil _ _ _ _ _|exact Kd.Q_nil _ _ _ _ _|exact Kd.S_nil _ _ _ _ _,by repeat (first|(with_reducible first|exact HB.out|apply ba'|apply bd'|apply be'|refine bs' ?_ GE368.out)|exact HB.out)⟩
end Go.Proofs.Ytikjdmiohpdnaaa.C16
