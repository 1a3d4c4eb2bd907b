import Derived.Test.YtihieplobgehaaaC2zx0
import Derived.Test.YtihieplobgehaaaC2zx1
import Derived.Test.YtihieplobgehaaaC2zx2
import Derived.Test.YtihieplobgehaaaC2zx3
import Derived.Test.YtihieplobgehaaaC2zx6
import Derived.Test.YtihieplobgehaaaC2zx7
import Derived.Test.YtihieplobgehaaaC2zx8
import Derived.Test.YtihieplobgehaaaC2zAl
namespace Go.Proofs.Ytihieplobgehaaa.C2
open Go.RowKit Go.Proofs.YtihieplobgehaaaW.PrintWords Go.Proofs.YtihieplobgehaaaW.PrintLast Go.Proofs.YtihieplobgehaaaW.PrintMore Go.Proofs.Ytihieplobgehaaa.H
attribute [local go_sem] max2_int min2_int max_two min_two max_three min_three max_four min_four
set_option linter.unusedVariables false
set_option linter.unusedSimpArgs false
mutual
def spec_seCount.l0:Nat→List Int→List Int→List Int→List Int→Int→Int→List Int→Int→Option (Int × Int)
 | 0,_,_,_,_,_,_,_,_=>none
 | k+1,x4,x5,x6,x25,x26,x27,x275000,x275001=>if x27 < x26 then (if 0≤x27 then (if x27 < (x25.length:Int) then (if 0≤(rd x25 x27) then (if (rd x25 x27) < (x4.length:Int) then (if (rd x4 (rd x25 x27))=0 then (if (rd x25 x27) < (x5.length:Int) then (spec_seCount.l0 k x4 (x5.set ((rd x25 x27):Int).toNat 1) x6 x25 x26 (wrap64 (x27+1)) x275000 x275001) else (none)) else ((spec_seState.f k (rd x25 x27) (x275000.length:Int)).bind fun bt301=>((spec_seNext.f k x275000 x275001 x4 bt301.1 bt301.2).bind fun t306=>(spec_seCount.l1 k x4 x5 x6 (rd x25 x27) x25 x26 x27 t306 (t306.length:Int) 0 x275000 x275001 bt301.1 bt301.2)))) else (none)) else (none)) else (none)) else (none)) else ((spec_paFirst.f x275000 x275001).bind fun bt291=>((spec_seIndex.f k bt291.1 bt291.2).bind fun t295=>(if 0≤t295 then (if t295 < (x5.length:Int) then (if t295 < (x6.length:Int) then (some (rd x5 t295,rd x6 t295)) else (none)) else (none)) else (none))))
def spec_seCount.l1:Nat→List Int→List Int→List Int→Int→List Int→Int→Int→List (List Int)→Int→Int→List Int→Int→List Bool→Bool→Option (Int × Int)
 | 0,_,_,_,_,_,_,_,_,_,_,_,_,_,_=>none
 | k+1,x4,x5,x6,x8,x25,x26,x27,x47,x48,x49,x275000,x275001,x306000,x306001=>if x49 < x48 then (if 0≤x49 then (if x49 < (x47.length:Int) then ((spec_paCross.f k x306000 x306001 (rd_L2 x47 x49)).bind fun bt310=>((spec_seIndex.f k bt310.1 bt310.2).bind fun t314=>(if 0≤x8 then (if x8 < (x5.length:Int) then (if 0≤t314 then (if t314 < (x5.length:Int) then ((some (x5.set (x8:Int).toNat (wrap64 ((rd x5 x8)+(rd x5 t314))):List Int)).bind fun y317=>(if x8 < (x6.length:Int) then (if (rd x6 x8)=0 then (if t314 < (x6.length:Int) then (spec_seCount.l1 k x4 y317 (x6.set (x8:Int).toNat (wrap64 ((rd x6 t314)+1))) x8 x25 x26 x27 x47 x48 (wrap64 (x49+1)) x275000 x275001 x306000 x306001) else (none)) else (if t314 < (x6.length:Int) then (if (wrap64 ((rd x6 t314)+1)) < (rd x6 x8) then (spec_seCount.l1 k x4 y317 (x6.set (x8:Int).toNat (wrap64 ((rd x6 t314)+1))) x8 x25 x26 x27 x47 x48 (wrap64 (x49+1)) x275000 x275001 x306000 x306001) else (spec_seCount.l1 k x4 y317 x6 x8 x25 x26 x27 x47 x48 (wrap64 (x49+1)) x275000 x275001 x306000 x306001)) else (none))) else (none))) else (none)) else (none)) else (none)) else (none)))) else (none)) else (none)) else (spec_seCount.l0 k x4 x5 x6 x25 x26 (wrap64 (x27+1)) x275000 x275001)
end
def spec_seCount.f (k:Nat) (l0_0:List Int) (a0_1:Int):Option (Int × Int):=(spec_paLast.f k l0_0 a0_1).bind fun bt275=>((spec_seFar.f k l0_0 a0_1 bt275.1 bt275.2).bind fun t279=>(if 0≤(t279.length:Int) then (if ((t279.length:Int):Int).toNat≤35184372088832 then ((spec_seOrder.f k t279).bind fun t288=>(spec_seCount.l0 k t279 (List.replicate ((t279.length:Int):Int).toNat 0) (List.replicate ((t279.length:Int):Int).toNat 0) t288 (t288.length:Int) 0 l0_0 a0_1)) else (none)) else (none)))
def spec_seCount.T2:Bool × List (List Nat × List Nat):=(true,[([],[]),([0],[0]),([1,1],[1]),([],[]),([3],[3]),([4,4],[4]),([2,0,1,2],[2]),([5,6,0,1,2,3,4,5,6],[5])])
def spec_seCount.B2:List Nat:=[0,1,3,0,8,24,7,127]
theorem spec_seCount.tab2:rtab .any (opsOf Try.f19 2)=spec_seCount.T2:=by kernel_rfl
theorem spec_seCount.bits2:waitsOk spec_seCount.T2.2 spec_seCount.B2=true:=by kernel_rfl
def spec_seCount.T13:Bool × List (List Nat × List Nat):=(true,[([],[]),([],[]),([0,1],[0,1]),([2],[2]),([],[]),([],[]),([4,5],[4,5]),([6],[6]),([3,7],[3,7]),([0,1,0,1,2,3,4,5,6,7,8],[0,1]),([9,8,0,1,2,3,4,5,6,7,8],[8,9])])
def spec_seCount.B13:List Nat:=[0,0,3,7,0,0,48,112,255,511,1023]
theorem spec_seCount.tab13:rtab .any (opsOf Try.f19 13)=spec_seCount.T13:=by kernel_rfl
theorem spec_seCount.bits13:waitsOk spec_seCount.T13.2 spec_seCount.B13=true:=by kernel_rfl
def spec_seCount.T14:Bool × List (List Nat × List Nat):=(true,[([],[]),([],[]),([0,1],[0,1]),([2],[2]),([3],[3]),([4],[4]),([5],[5]),([5],[5]),([6,7,5],[5,6,7]),([8,5],[5,8]),([9,5],[5,9]),([5],[5]),([5],[5]),([11,12,5],[5,11,12]),([13,5],[5,13]),([10,14,5],[5,10,14]),([5,15],[5,15])])
def spec_seCount.B14:List Nat:=[0,0,3,7,15,31,63,63,255,511,1023,63,63,6207,14399,32767,65535]
theorem spec_seCount.tab14:rtab .any (opsOf Try.f19 14)=spec_seCount.T14:=by kernel_rfl
theorem spec_seCount.bits14:waitsOk spec_seCount.T14.2 spec_seCount.B14=true:=by kernel_rfl
def spec_seCount.T19:Bool × List (List Nat × List Nat):=(true,[([],[]),([],[]),([0,1],[0,1]),([2],[2]),([],[]),([],[]),([4,5],[4,5]),([6],[6]),([3,0,1,2,3],[3]),([7,8,0,1,2,3,4,5,6,7,8],[7])])
def spec_seCount.B19:List Nat:=[0,0,3,7,0,0,48,112,15,511]
theorem spec_seCount.tab19:rtab .any (opsOf Try.f19 19)=spec_seCount.T19:=by kernel_rfl
theorem spec_seCount.bits19:waitsOk spec_seCount.T19.2 spec_seCount.B19=true:=by kernel_rfl
set_option maxHeartbeats 8000000 in
set_option maxRecDepth 100000 in
theorem spec_seCount.calls (k:Nat) (A0_0:Option Addr) (c0_0:Nat) (l0_0:List Int) (a0_1:Int) (r1:Int) (r2:Int) (w:World) (hr0_0:Kd.C (Kd.int .i64) w A0_0 l0_0.length l0_0) (hc0_0:l0_0.length≤c0_0) (h:spec_seCount.f k l0_0 a0_1=some (r1,r2)) :
  Calls Try.prog 19 #[.agg #[.slice A0_0 l0_0.length c0_0, .int .i64 a0_1]] w fun e w'=>e = .returned (.tuple #[.int .i64 r1, .int .i64 r2])∧Below w.heap.size w w':=by
 have hu28:=Try.underlying28
 have hu54:=Try.underlying54
 have HR0_0:=am' hr0_0
 have HC0_0:=am' hc0_0
 clear hr0_0 hc0_0;have HB:=am' (Below.refl w.heap.size w)
 have H:((spec_paLast.f k l0_0 a0_1).bind fun bt275=>((spec_seFar.f k l0_0 a0_1 bt275.1 bt275.2).bind fun t279=>(if 0≤(t279.length:Int) then (if ((t279.length:Int):Int).toNat≤35184372088832 then ((spec_seOrder.f k t279).bind fun t288=>(spec_seCount.l0 k t279 (List.replicate ((t279.length:Int):Int).toNat 0) (List.replicate ((t279.length:Int):Int).toNat 0) t288 (t288.length:Int) 0 l0_0 a0_1)) else (none)) else (none))))=some (r1,r2):=h
 clear h;replace H:=Option.bind_eq_some_iff.mp H
 obtain ⟨⟨t275,t278⟩,A20,H⟩:=H
 replace H:((spec_seFar.f k l0_0 a0_1 t275 t278).bind fun t279=>(if 0≤(t279.length:Int) then (if ((t279.length:Int):Int).toNat≤35184372088832 then ((spec_seOrder.f k t279).bind fun t288=>(spec_seCount.l0 k t279 (List.replicate ((t279.length:Int):Int).toNat 0) (List.replicate ((t279.length:Int):Int).toNat 0) t288 (t288.length:Int) 0 l0_0 a0_1)) else (none)) else (none)))=some (r1,r2):=H
 have A2:=am' A20
 clear A20;replace H:=Option.bind_eq_some_iff.mp H
 obtain ⟨t279,A30,H⟩:=H
 replace H:(if 0≤(t279.length:Int) then (if ((t279.length:Int):Int).toNat≤35184372088832 then ((spec_seOrder.f k t279).bind fun t288=>(spec_seCount.l0 k t279 (List.replicate ((t279.length:Int):Int).toNat 0) (List.replicate ((t279.length:Int):Int).toNat 0) t288 (t288.length:Int) 0 l0_0 a0_1)) else (none)) else (none))=some (r1,r2):=H
 have A3:=am' A30
 clear A30;by_cases c4:0≤(t279.length:Int)
 ·
  rw[if_pos c4] at H;have c4b0:=eq_true c4;have c4b1:decide (0≤(t279.length:Int))=true:=dt' c4;clear c4;by_cases c5:((t279.length:Int):Int).toNat≤35184372088832
  ·
   rw[if_pos c5] at H;have c5b0:=eq_true c5;have c5b1:decide (((t279.length:Int):Int).toNat≤35184372088832)=true:=dt' c5;clear c5;obtain ⟨y282,hy282⟩:∃ y_:List Int,y_=(List.replicate ((t279.length:Int):Int).toNat 0):=⟨_,rfl⟩
   replace H:((spec_seOrder.f k t279).bind fun t288=>(spec_seCount.l0 k t279 y282 (List.replicate ((t279.length:Int):Int).toNat 0) t288 (t288.length:Int) 0 l0_0 a0_1))=some (r1,r2):=by first|(rw[hy282];with_reducible exact H)|(have H2_:=(Option.bind_some _ _).symm.trans H;rw[hy282];with_reducible exact H2_)|(have H2_:=(Option.bind_some _ _).symm.trans H;with_reducible exact H2_)|with_reducible exact H|(rw[hy282];exact H)|exact H
   have Ny282:=am' hy282;clear hy282;obtain ⟨y285,hy285⟩:∃ y_:List Int,y_=(List.replicate ((t279.length:Int):Int).toNat 0):=⟨_,rfl⟩
   replace H:((spec_seOrder.f k t279).bind fun t288=>(spec_seCount.l0 k t279 y282 y285 t288 (t288.length:Int) 0 l0_0 a0_1))=some (r1,r2):=by first|(rw[hy285];with_reducible exact H)|(have H2_:=(Option.bind_some _ _).symm.trans H;rw[hy285];with_reducible exact H2_)|(have H2_:=(Option.bind_some _ _).symm.trans H;with_reducible exact H2_)|with_reducible exact H|(rw[hy285];exact H)|exact H
   have Ny285:=am' hy285;clear hy285;replace H:=Option.bind_eq_some_iff.mp H;obtain ⟨t288,A60,H⟩:=H;replace H:(spec_seCount.l0 k t279 y282 y285 t288 (t288.length:Int) 0 l0_0 a0_1)=some (r1,r2):=H;have A6:=am' A60;clear A60;have H':=am' H;clear H;go_enter Try.func19,Try.ntmps19
   try go_wp2_with (first|((with_reducible refine gate_dst (N:=1) rfl ?_);refine box_event ?hg (N:=1) ?hd (cs:=#[.slice A0_0 l0_0.length c0_0, .int .i64 a0_1]) (t:=28) ?hr ?_;(case hd=>rfl);(case hg=>rfl);(case hr=>first|(go_simp;done)|(go_simp;rfl));intro gb274 hg w7 hbox hb;have n0_:=am' (bt' xb' hb);have n1_:=am' (hbox);have n2_:=am' ((by rw[hg];exact (bz' xb'):w.heap.size≤gb274));have n3_:=am' ((by rw[hg];exact (bz' xb'):w.heap.size≤gb274));clear HB;have HB:=n0_;have BK274:=n1_;have GW274:=n2_;have GE274:=n3_;clear n0_ n1_ n2_ n3_;clear hb hbox hg))
   have n0_:=am' (kd' BK274.out);have n1_:=am' (be' HB.out);clear BK274;clear HB;have BK274:=n0_;have HB:=n1_;clear n0_ n1_;refine start_ (n:=5) (S:=fun w'=>w'.cell? ⟨gb274,0,none⟩=some (.slice A0_0 l0_0.length c0_0)∧w'.cell? ⟨gb274,1,none⟩=some (.int .i64 a0_1)) (ds:=[]) #[false,false,false,false,false] xk' rfl rfl ⟨(bc' BK274.out 0).trans rfl,(bc' BK274.out 1).trans rfl⟩ (fun hHeld=>?_);generalize w7.drew=w8 at BK274 HB hHeld ⊢
   refine take_ (i:=0) (N:=some 14) (v:=?_) (a':=?_) #[true,false,false,false,false] rfl rfl xk' (fun _ _ _ h=>h) (Or.inl ⟨by rfl,?_⟩) hHeld ?_ ?_
   rotate_left
   ·
    rintro w' ⟨s0,s1⟩
    go_simp;with_reducible rfl
   rotate_left
   ·
    simp only[Act.put,sa',sb',sc',i64_w,i32_w];rfl
   refine take_ (i:=1) (N:=some 15) (v:=?_) (a':=?_) #[true,true,false,false,false] rfl rfl xk' (fun _ _ _ h=>h) (Or.inl ⟨by rfl,?_⟩) hHeld ?_ ?_
   rotate_left
   ·
    rintro w' ⟨s0,s1⟩
    go_simp;with_reducible rfl
   rotate_left
   ·
    simp only[Act.put,sa',sb',sc',i64_w,i32_w];rfl
   refine one_ (i:=2) (N:=some 16) #[true,true,true,false,false] rfl rfl xk' (by decide) (fun K hK=>?_);refine goes_ Try.func41 xk' rfl #[.agg #[.slice A0_0 l0_0.length c0_0, .int .i64 a0_1]] (by rfl) rfl rfl xl' ?_
   with_reducible refine (spec_paLast.calls k _ _ l0_0 a0_1 t275 t278 _ ?side1 ?side2 A2.out).mono ?_
   (case side1=>exact kc' (cb' HR0_0.out HB.out))
   (case side2=>exact HC0_0.out)
   rintro e w9 ⟨v276,rfl,ho0,hb⟩
   refine ⟨_,rfl,?_⟩;have n0_:=am' (Kd.R_lower ho0 (bz' (yb' GE274.out)));have n1_:=am' (bb' (g:=gb274) (o := .cells #[.slice A0_0 l0_0.length c0_0, .int .i64 a0_1] 28 (0,0)) (kk' BK274.out) hb);have n2_:=am' (bt' (yb' GE274.out) hb);clear BK274;clear HB;have HO277:=n0_;have BK274:=n1_;have HB:=n2_;clear n0_ n1_ n2_;(try clear hb)
   (try clear hb2)
   (try clear hk)
   (try clear hi)
   (try clear ho0)
   obtain ⟨Ao10,co10,eo10⟩:=Kd.R_slice HO277.out
   (first|subst eo10|(injection eo10 with f1_ f2_ f3_;have f4_:=f1_.symm;have f5_:=f3_.symm;clear f1_ f2_ f3_;subst f4_;subst f5_))
   refine hK.out _ _ ⟨(bc' BK274.out 0).trans rfl,(bc' BK274.out 1).trans rfl⟩ (fun hHeld=>?_);clear hK K;refine norm_ (a':=?_) ?_ ?_
   rotate_left
   ·
    show Act.put _ (some 16) _=_
    simp only[Act.put,sa',sb',sc',i64_w,i32_w];rfl
   refine one_ (i:=3) (N:=some 17) #[true,true,true,true,false] rfl rfl xk' (by decide) (fun K hK=>?_);refine goes_ Try.func25 xk' rfl #[.agg #[.slice A0_0 l0_0.length c0_0, .int .i64 a0_1], .agg #[.slice Ao10 t275.length co10, .bool t278]] (by rfl) rfl rfl xl' ?_
   with_reducible refine (spec_seFar.calls k _ _ l0_0 a0_1 _ _ t275 t278 t279 _ ?side1 ?side2 ?side3 ?side4 A3.out).mono ?_
   (case side1=>exact kc' (cb' HR0_0.out HB.out))
   (case side2=>exact HC0_0.out)
   (case side3=>exact kc' ((Kd.R_reads' HO277.out).2.2))
   (case side4=>exact (Kd.R_reads' HO277.out).2.1)
   rintro e w11 ⟨v280,rfl,ho0,hb⟩
   refine ⟨_,rfl,?_⟩;have n0_:=am' (rb' (kr' HO277.out) hb);have n1_:=am' (Kd.R_lower ho0 (bz' (yb' GE274.out)));have n2_:=am' (bb' (g:=gb274) (o := .cells #[.slice A0_0 l0_0.length c0_0, .int .i64 a0_1] 28 (0,0)) (kk' BK274.out) hb);have n3_:=am' (bt' (yb' GE274.out) hb);clear HO277;clear BK274;clear HB;have HO277:=n0_;have HO281:=n1_;have BK274:=n2_;have HB:=n3_;clear n0_ n1_ n2_ n3_;(try clear hb)
   (try clear hb2)
   (try clear hk)
   (try clear hi)
   (try clear ho0)
   refine hK.out _ _ ⟨(bc' BK274.out 0).trans rfl,(bc' BK274.out 1).trans rfl⟩ (fun hHeld=>?_);clear hK K;refine norm_ (a':=?_) ?_ ?_
   rotate_left
   ·
    show Act.put _ (some 17) _=_
    simp only[Act.put,sa',sb',sc',i64_w,i32_w];rfl
   refine pure_ (i:=4) (N:=some 4) (v:=?_) (a':=?_) #[true,true,true,true,true] rfl rfl xk' (fun _ _ _ h=>h) (Or.inl ⟨by rfl,?_⟩) ?_ ?_
   rotate_left
   ·
    intro w';go_simp;with_reducible rfl
   rotate_left
   ·
    simp only[Act.put,sa',sb',sc',i64_w,i32_w];rfl
   refine done_ xk' ?_
   try go_wp2
   have n0_:=am' (rw' HO277.out);have n1_:=am' (rw' HO281.out);have n2_:=am' (kd' BK274.out);have n3_:=am' (be' HB.out);clear HO277;clear HO281;clear BK274;clear HB;have HO277:=n0_;have HO281:=n1_;have BK274:=n2_;have HB:=n3_;clear n0_ n1_ n2_ n3_;obtain ⟨Ao13,co13,eo13⟩:=Kd.R_slice HO281.out
   (first|subst eo13|(injection eo13 with f1_ f2_ f3_;have f4_:=f1_.symm;have f5_:=f3_.symm;clear f1_ f2_ f3_;subst f4_;subst f5_))
   refine start_ (n:=8) (S:=fun w'=>True) (ds:=[]) #[false,false,false,false,false,false,false,false] xk' rfl rfl trivial (fun hHeld=>?_);refine with_tabW spec_seCount.tab2 spec_seCount.bits2 (fun HT_ HW_=>?_);generalize w11.drew=w12 at HO277 HO281 BK274 HB hHeld ⊢
   refine pure_ (i:=0) (N:=some 18) (v:=?_) (a':=?_) #[true,false,false,false,false,false,false,false] rfl rfl (any_of HT_.out xk') (fun _ _ _ h=>h) (Or.inl ⟨by rfl,?_⟩) ?_ ?_
   rotate_left
   ·
    intro w';go_simp;with_reducible rfl
   rotate_left
   ·
    simp only[Act.put,sa',sb',sc',i64_w,i32_w];rfl
   refine pure_ (i:=1) (N:=some 19) (v:=?_) (a':=?_) #[true,true,false,false,false,false,false,false] rfl rfl (any_of HT_.out xk') (fun _ _ _ h=>h) (Or.inl ⟨by rfl,?_⟩) ?_ ?_
   rotate_left
   ·
    intro w';go_simp;with_reducible rfl
   rotate_left
   ·
    simp only[Act.put,sa',sb',sc',i64_w,i32_w];rfl
   refine pure_ (i:=3) (N:=some 21) (v:=?_) (a':=?_) #[true,true,false,true,false,false,false,false] rfl rfl (any_of HT_.out xk') (fun _ _ _ h=>h) (Or.inl ⟨by rfl,?_⟩) ?_ ?_
   rotate_left
   ·
    intro w';go_simp;with_reducible rfl
   rotate_left
   ·
    simp only[Act.put,sa',sb',sc',i64_w,i32_w];rfl
   refine pure_ (i:=4) (N:=some 22) (v:=?_) (a':=?_) #[true,true,false,true,true,false,false,false] rfl rfl (any_of HT_.out xk') (fun _ _ _ h=>h) (Or.inl ⟨by rfl,?_⟩) ?_ ?_
   rotate_left
   ·
    intro w';go_simp;with_reducible rfl
   rotate_left
   ·
    simp only[Act.put,sa',sb',sc',i64_w,i32_w];rfl
   refine join_ (σ:=Value × Value) 1 #[true,true,true,true,true,true,true,false] (fun s_=>[(20,s_.1),(23,s_.2),(5,s_.1)]) (fun s_ w'=>(Kd.R Kd.bool 4 w' w.heap.size (fun _=>True) (.slice Ao10 t275.length co10) t275)∧(Kd.R (Kd.int .i64) 3 w' w.heap.size (fun k_=>some k_≠(s_.1:Value).ownBlock∧some k_≠(s_.2:Value).ownBlock) (.slice Ao13 t279.length co13) t279)∧(Kd.R (Kd.int .i64) 3 w' w.heap.size (fun k_=>some k_≠(.slice Ao13 t279.length co13:Value).ownBlock∧some k_≠(s_.2:Value).ownBlock) s_.1 y282)∧(Kd.R (Kd.int .i64) 3 w' w.heap.size (fun k_=>some k_≠(.slice Ao13 t279.length co13:Value).ownBlock∧some k_≠(s_.1:Value).ownBlock) s_.2 y285)∧(w'.heap[gb274]? = some (.cells #[.slice A0_0 l0_0.length c0_0, .int .i64 a0_1] 28 (0,0)))∧(Below w.heap.size w w')) ?_ ?_
   rotate_left
   ·
    intro hCont;refine two_ (i:=2) (j:=5) (Ni:=some 20) (Nj:=some 23) #[true,true,true,true,true,false,false,false] #[true,true,false,true,true,true,false,false] rfl rfl rfl rfl (two_of HT_.out xk') (by decide) (by decide) (fun K hK=>?_) (fun K hK=>?_)
    ·
     skip
     refine Kd.R_make_step (Kd.int .i64) _ 3 (by rfl) (N:=20) rfl 22 _ _ rfl (t279.length:Int) rfl rfl Try.underlying22 (.int .i64 0) 8 info3 rfl (by decide) (by omega) 0 (ok:=fun _=>True) (okp:=fun _=>True) rfl (fun _ hk=>hk) trivial (od' xa') (Nat.le_trans (Nat.mul_le_mul_right _ (od' xa':(t279.length:Int).toNat≤35184372088832)) (by omega)) (Below.refl _ _) (Nat.le_refl _) ?_
     intro v283 w14 ho15 hb hg_ hnew_;clear hg_ hnew_;(first|rw[← Ny282.out] at ho15|(simp only[Int.reduceToNat] at ho15;rw[← Ny282.out] at ho15))
     have n0_:=am' (rb' (kr' HO277.out) hb);have n1_:=am' (Kd.R_elder' (kr' HO281.out) (Kd.R_base ho15) hb);have n2_:=am' (Kd.R_lower (Kd.R_new' ho15 (Kd.R_lt (kr' HO281.out))) (bz' (yb' GE274.out)));have n3_:=am' (bb' (g:=gb274) (o := .cells #[.slice A0_0 l0_0.length c0_0, .int .i64 a0_1] 28 (0,0)) (kk' BK274.out) hb);have n4_:=am' (bt' (yb' GE274.out) hb);clear HO277;clear HO281;clear BK274;clear HB;have HO277:=n0_;have HO281:=n1_;have HO284:=n2_;have BK274:=n3_;have HB:=n4_;clear n0_ n1_ n2_ n3_ n4_;clear hb ho15;refine hK.out _ _ trivial (fun hHeld=>?_);clear hK K;refine norm_ (a':=?_) ?_ ?_
     rotate_left
     ·
      show Act.put _ (some 20) _=_
      simp only[Act.put,sa',sb',sc',i64_w,i32_w];rfl
     refine pure_ (i:=6) (N:=some 5) (v:=?_) (a':=?_) #[true,true,true,true,true,false,true,false] rfl rfl (any_of HT_.out xk') (fun _ _ _ h=>h) (Or.inl ⟨by rfl,?_⟩) ?_ ?_
     rotate_left
     ·
      intro w';go_simp;with_reducible rfl
     rotate_left
     ·
      simp only[Act.put,sa',sb',sc',i64_w,i32_w];rfl
     refine one_ (i:=5) (N:=some 23) #[true,true,true,true,true,true,true,false] rfl rfl (one_of HT_.out xk') (by decide) (fun K hK=>?_);refine Kd.R_make_step (Kd.int .i64) _ 3 (by rfl) (N:=23) rfl 22 _ _ rfl (t279.length:Int) rfl rfl Try.underlying22 (.int .i64 0) 8 info3 rfl (by decide) (by omega) 0 (ok:=fun _=>True) (okp:=fun _=>True) rfl (fun _ hk=>hk) trivial (od' xa') (Nat.le_trans (Nat.mul_le_mul_right _ (od' xa':(t279.length:Int).toNat≤35184372088832)) (by omega)) (Below.refl _ _) (Nat.le_refl _) ?_
     intro v286 w16 ho17 hb hg_ hnew_;clear hg_ hnew_;(first|rw[← Ny285.out] at ho17|(simp only[Int.reduceToNat] at ho17;rw[← Ny285.out] at ho17))
     have n0_:=am' (rb' (kr' HO277.out) hb);have n1_:=am' (Kd.R_elder' (kr' HO281.out) (Kd.R_base ho17) hb);have n2_:=am' (Kd.R_elder' (kr' HO284.out) (Kd.R_base ho17) hb);have n3_:=am' (Kd.R_lower (Kd.R_new' (Kd.R_new' ho17 (Kd.R_lt (kr' HO281.out))) (Kd.R_lt (kr' HO284.out))) (bz' (yb' GE274.out)));have n4_:=am' (bb' (g:=gb274) (o := .cells #[.slice A0_0 l0_0.length c0_0, .int .i64 a0_1] 28 (0,0)) (kk' BK274.out) hb);have n5_:=am' (bt' (yb' GE274.out) hb);clear HO277;clear HO281;clear HO284;clear BK274;clear HB;have HO277:=n0_;have HO281:=n1_;have HO284:=n2_;have HO287:=n3_;have BK274:=n4_;have HB:=n5_;clear n0_ n1_ n2_ n3_ n4_ n5_;clear hb ho17;refine hK.out _ _ trivial (fun hHeld=>?_);clear hK K;refine norm_ (a':=?_) ?_ ?_
     rotate_left
     ·
      show Act.put _ (some 23) _=_
      simp only[Act.put,sa',sb',sc',i64_w,i32_w];rfl
     exact norm_ (by simp only[putAll,Act.put,sa',sb',sc']) (hCont (v283,v286) _ ⟨(kr' HO277.out),(by (with_reducible repeat (first|apply ra'|apply rn'|apply rw'));exact Kd.R_mono HO281.out (fun _ hk=>⟨hk.1.2,hk.2⟩)),(by (with_reducible repeat (first|apply ra'|apply rn'|apply rw'));exact Kd.R_mono HO284.out (fun _ hk=>⟨hk.1.2,hk.2⟩)),(by (with_reducible repeat (first|apply ra'|apply rn'|apply rw'));exact Kd.R_mono HO287.out (fun _ hk=>⟨hk.1.2,hk.2⟩)),(kk' BK274.out),(yb' GE274.out)⟩)
    ·
     skip
     refine Kd.R_make_step (Kd.int .i64) _ 3 (by rfl) (N:=23) rfl 22 _ _ rfl (t279.length:Int) rfl rfl Try.underlying22 (.int .i64 0) 8 info3 rfl (by decide) (by omega) 0 (ok:=fun _=>True) (okp:=fun _=>True) rfl (fun _ hk=>hk) trivial (od' xa') (Nat.le_trans (Nat.mul_le_mul_right _ (od' xa':(t279.length:Int).toNat≤35184372088832)) (by omega)) (Below.refl _ _) (Nat.le_refl _) ?_
     intro v286 w14 ho15 hb hg_ hnew_;clear hg_ hnew_;(first|rw[← Ny285.out] at ho15|(simp only[Int.reduceToNat] at ho15;rw[← Ny285.out] at ho15))
     have n0_:=am' (rb' (kr' HO277.out) hb);have n1_:=am' (Kd.R_elder' (kr' HO281.out) (Kd.R_base ho15) hb);have n2_:=am' (Kd.R_lower (Kd.R_new' ho15 (Kd.R_lt (kr' HO281.out))) (bz' (yb' GE274.out)));have n3_:=am' (bb' (g:=gb274) (o := .cells #[.slice A0_0 l0_0.length c0_0, .int .i64 a0_1] 28 (0,0)) (kk' BK274.out) hb);have n4_:=am' (bt' (yb' GE274.out) hb);clear HO277;clear HO281;clear BK274;clear HB;have HO277:=n0_;have HO281:=n1_;have HO287:=n2_;have BK274:=n3_;have HB:=n4_;clear n0_ n1_ n2_ n3_ n4_;clear hb ho15;refine hK.out _ _ trivial (fun hHeld=>?_);clear hK K;refine norm_ (a':=?_) ?_ ?_
     rotate_left
     ·
      show Act.put _ (some 23) _=_
      simp only[Act.put,sa',sb',sc',i64_w,i32_w];rfl
     refine one_ (i:=2) (N:=some 20) #[true,true,true,true,true,true,false,false] rfl rfl (one_of HT_.out xk') (by decide) (fun K hK=>?_);refine Kd.R_make_step (Kd.int .i64) _ 3 (by rfl) (N:=20) rfl 22 _ _ rfl (t279.length:Int) rfl rfl Try.underlying22 (.int .i64 0) 8 info3 rfl (by decide) (by omega) 0 (ok:=fun _=>True) (okp:=fun _=>True) rfl (fun _ hk=>hk) trivial (od' xa') (Nat.le_trans (Nat.mul_le_mul_right _ (od' xa':(t279.length:Int).toNat≤35184372088832)) (by omega)) (Below.refl _ _) (Nat.le_refl _) ?_
     intro v283 w16 ho17 hb hg_ hnew_;clear hg_ hnew_;(first|rw[← Ny282.out] at ho17|(simp only[Int.reduceToNat] at ho17;rw[← Ny282.out] at ho17))
     have n0_:=am' (rb' (kr' HO277.out) hb);have n1_:=am' (Kd.R_elder' (kr' HO281.out) (Kd.R_base ho17) hb);have n2_:=am' (Kd.R_elder' (kr' HO287.out) (Kd.R_base ho17) hb);have n3_:=am' (Kd.R_lower (Kd.R_new' (Kd.R_new' ho17 (Kd.R_lt (kr' HO281.out))) (Kd.R_lt (kr' HO287.out))) (bz' (yb' GE274.out)));have n4_:=am' (bb' (g:=gb274) (o := .cells #[.slice A0_0 l0_0.length c0_0, .int .i64 a0_1] 28 (0,0)) (kk' BK274.out) hb);have n5_:=am' (bt' (yb' GE274.out) hb);clear HO277;clear HO281;clear HO287;clear BK274;clear HB;have HO277:=n0_;have HO281:=n1_;have HO287:=n2_;have HO284:=n3_;have BK274:=n4_;have HB:=n5_;clear n0_ n1_ n2_ n3_ n4_ n5_;clear hb ho17;refine hK.out _ _ trivial (fun hHeld=>?_);clear hK K;refine norm_ (a':=?_) ?_ ?_
     rotate_left
     ·
      show Act.put _ (some 20) _=_
      simp only[Act.put,sa',sb',sc',i64_w,i32_w];rfl
     refine pure_ (i:=6) (N:=some 5) (v:=?_) (a':=?_) #[true,true,true,true,true,true,true,false] rfl rfl (any_of HT_.out xk') (fun _ _ _ h=>h) (Or.inl ⟨by rfl,?_⟩) ?_ ?_
     rotate_left
     ·
      intro w';go_simp;with_reducible rfl
     rotate_left
     ·
      simp only[Act.put,sa',sb',sc',i64_w,i32_w];rfl
     exact norm_ (by simp only[putAll,Act.put,sa',sb',sc']) (hCont (v283,v286) _ ⟨(kr' HO277.out),(by (with_reducible repeat (first|apply ra'|apply rn'|apply rw'));exact Kd.R_mono HO281.out (fun _ hk=>⟨hk.2,hk.1.2⟩)),(by (with_reducible repeat (first|apply ra'|apply rn'|apply rw'));exact Kd.R_mono HO284.out (fun _ hk=>⟨hk.1.2,hk.2⟩)),(by (with_reducible repeat (first|apply ra'|apply rn'|apply rw'));exact Kd.R_mono HO287.out (fun _ hk=>⟨hk.1.2,hk.2⟩)),(kk' BK274.out),(yb' GE274.out)⟩)
   rintro ⟨v283,v286⟩ w18 ⟨h0_,h1_,h2_,h3_,h4_,h5_⟩
   have n0_:Aside0 (Kd.R Kd.bool 4 w18 w.heap.size (fun _=>True) (.slice Ao10 t275.length co10) t275):=⟨h0_⟩
   have n1_:Aside0 (Kd.R (Kd.int .i64) 3 w18 w.heap.size (fun k_=>some k_≠(v283:Value).ownBlock∧some k_≠(v286:Value).ownBlock) (.slice Ao13 t279.length co13) t279):=⟨h1_⟩
   have n2_:Aside0 (Kd.R (Kd.int .i64) 3 w18 w.heap.size (fun k_=>some k_≠(.slice Ao13 t279.length co13:Value).ownBlock∧some k_≠(v286:Value).ownBlock) v283 y282):=⟨h2_⟩
   have n3_:Aside0 (Kd.R (Kd.int .i64) 3 w18 w.heap.size (fun k_=>some k_≠(.slice Ao13 t279.length co13:Value).ownBlock∧some k_≠(v283:Value).ownBlock) v286 y285):=⟨h3_⟩
   have n4_:Aside0 (w18.heap[gb274]? = some (.cells #[.slice A0_0 l0_0.length c0_0, .int .i64 a0_1] 28 (0,0))):=⟨h4_⟩
   have n5_:Aside0 (Below w.heap.size w w18):=⟨h5_⟩
   clear HO277;clear HO281;clear BK274;clear HB;clear h0_ h1_ h2_ h3_ h4_ h5_;have HO277:=n0_;have HO281:=n1_;have HO284:=n2_;have HO287:=n3_;have BK274:=n4_;have HB:=n5_;clear n0_ n1_ n2_ n3_ n4_ n5_;have hHeld:=trivial;refine norm_ (a':=?_) ?_ ?_
   rotate_left
   ·
    simp only[putAll,Act.put,sa',sb',sc'];rfl
   refine pure_ (i:=7) (N:=some 6) (v:=?_) (a':=?_) #[true,true,true,true,true,true,true,true] rfl rfl (any_of HT_.out xk') (fun _ _ _ h=>h) (Or.inl ⟨by rfl,?_⟩) ?_ ?_
   rotate_left
   ·
    intro w';go_simp;with_reducible rfl
   rotate_left
   ·
    simp only[Act.put,sa',sb',sc',i64_w,i32_w];rfl
   refine done_ (done_of HT_.out xk') ?_
   try go_wp2_with (first|((with_reducible refine gate_callee (f:=42) rfl ?_);refine goesL_ (some 25) rfl rfl Try.func42 xk' rfl #[.slice Ao13 t279.length co13] rfl xl' ?_;(with_reducible refine (spec_seOrder.calls k _ _ t279 t288 _ ?side1 ?side2 A6.out).mono ?_);(case side1=>exact kc' ((Kd.R_reads' HO281.out).2.2));(case side2=>exact (Kd.R_reads' HO281.out).2.1);rintro e w19 ⟨v289,rfl,ho0,hb⟩;refine ⟨_,rfl,?_⟩;have n0_:=am' (rb' (kr' HO277.out) hb);have n1_:=am' (Kd.R_elder' (kr' HO281.out) (Kd.R_base ho0) hb);have n2_:=am' (Kd.R_elder' (kr' HO284.out) (Kd.R_base ho0) hb);have n3_:=am' (Kd.R_elder' (kr' HO287.out) (Kd.R_base ho0) hb);have n4_:=am' (Kd.R_lower (Kd.R_new' (Kd.R_new' (Kd.R_new' ho0 (Kd.R_lt (kr' HO281.out))) (Kd.R_lt (kr' HO284.out))) (Kd.R_lt (kr' HO287.out))) (bz' (yb' GE274.out)));have n5_:=am' (bb' (g:=gb274) (o := .cells #[.slice A0_0 l0_0.length c0_0, .int .i64 a0_1] 28 (0,0)) (kk' BK274.out) hb);have n6_:=am' (bt' (yb' GE274.out) hb);clear HO277;clear HO281;clear HO284;clear HO287;clear BK274;clear HB;have HO277:=n0_;have HO281:=n1_;have HO284:=n2_;have HO287:=n3_;have HO290:=n4_;have BK274:=n5_;have HB:=n6_;clear n0_ n1_ n2_ n3_ n4_ n5_ n6_;(try clear hb);(try clear hb2);(try clear hk);(try clear hi);(try clear ho0);obtain ⟨Ao20,co20,eo20⟩:=Kd.R_slice HO290.out;subst eo20))
   go_loopg [27] k (fun kq v27 w'=>∃ (x5_1:List Int) (x6_1:List Int) (x27_1:Int),v27 = .int .i64 x27_1∧Aside0 (spec_seCount.l0 kq t279 x5_1 x6_1 t288 (t288.length:Int) x27_1 l0_0 a0_1=some (r1,r2))∧Aside0 (kq≤k)∧Aside0 (Kd.R (Kd.int .i64) 3 w' w.heap.size (fun k_=>some k_≠(v283:Value).ownBlock∧some k_≠(v286:Value).ownBlock∧some k_≠((.slice Ao20 t288.length co20):Value).ownBlock) (.slice Ao13 t279.length co13) t279)∧Aside0 (Kd.R (Kd.int .i64) 3 w' w.heap.size (fun k_=>some k_≠((.slice Ao13 t279.length co13):Value).ownBlock∧some k_≠(v286:Value).ownBlock∧some k_≠((.slice Ao20 t288.length co20):Value).ownBlock) v283 x5_1)∧Aside0 (Kd.R (Kd.int .i64) 3 w' w.heap.size (fun k_=>some k_≠((.slice Ao13 t279.length co13):Value).ownBlock∧some k_≠(v283:Value).ownBlock∧some k_≠((.slice Ao20 t288.length co20):Value).ownBlock) v286 x6_1)∧Aside0 (Kd.R (Kd.int .i64) 3 w' w.heap.size (fun k_=>some k_≠((.slice Ao13 t279.length co13):Value).ownBlock∧some k_≠(v283:Value).ownBlock∧some k_≠(v286:Value).ownBlock) (.slice Ao20 t288.length co20) t288)∧Aside0 (w'.heap[gb274]? = some (.cells #[(.slice A0_0 l0_0.length c0_0), .int .i64 a0_1] 28 (0,0)))∧Aside0 (Below w.heap.size w w'))
   case atStart=>exact ⟨(y282),(y285),(0),xs',H',⟨Nat.le_refl _⟩,⟨by (with_reducible repeat (first|apply ra'|apply rn'|apply rw'));exact Kd.R_mono HO281.out (fun _ hk=>⟨hk.1.1,⟨hk.1.2,hk.2⟩⟩)⟩,⟨by (with_reducible repeat (first|apply ra'|apply rn'|apply rw'));exact Kd.R_mono HO284.out (fun _ hk=>⟨hk.1.1,⟨hk.1.2,hk.2⟩⟩)⟩,⟨by (with_reducible repeat (first|apply ra'|apply rn'|apply rw'));exact Kd.R_mono HO287.out (fun _ hk=>⟨hk.1.1,⟨hk.1.2,hk.2⟩⟩)⟩,⟨by (with_reducible repeat (first|apply ra'|apply rn'|apply rw'));exact Kd.R_mono HO290.out (fun _ hk=>⟨hk.1.1.2,⟨hk.1.2,hk.2⟩⟩)⟩,⟨kk' BK274.out⟩,⟨yb' GE274.out⟩⟩
   case round =>
    clear H';try clear c1
    try clear c2
    try clear p2
    try clear c4
    try clear c4b0
    try clear c4b1
    try clear c5
    try clear c5b0
    try clear c5b1
    try clear c19
    obtain ⟨x5_1,x6_1,x27_1,rfl,HA,HK1,HO_4,HO_5,HO_6,HO_25,BK274,HB⟩:=hrel;cases gk with
    | zero=>exact absurd HA.out (by simp[spec_seCount.l0])
    | succ k1 =>
     have H:=HA.out;clear HA;simp only[spec_seCount.l0] at H;by_cases c21:x27_1 < (t288.length:Int)
     ·
      rw[if_pos c21] at H;have c21b0:decide (x27_1 < (t288.length:Int))=true:=dt' c21;clear c21;by_cases c22:0≤x27_1
      ·
       rw[if_pos c22] at H;have c22b0:decide (0≤x27_1)=true:=dt' c22;clear c22;by_cases c23:x27_1 < (t288.length:Int)
       ·
        rw[if_pos c23] at H;have c23b0:decide (x27_1 < (t288.length:Int))=true:=dt' c23;clear c23;by_cases c24:0≤(rd t288 x27_1)
        ·
         rw[if_pos c24] at H;have c24b0:decide (0≤(rd t288 x27_1))=true:=dt' c24;clear c24;by_cases c25:(rd t288 x27_1) < (t279.length:Int)
         ·
          rw[if_pos c25] at H;have c25b0:decide ((rd t288 x27_1) < (t279.length:Int))=true:=dt' c25;clear c25;by_cases c26:(rd t279 (rd t288 x27_1))=0
          ·
           rw[if_pos c26] at H;have c26b0:((rd t279 (rd t288 x27_1)) == 0)=true:=beq_iff_eq.mpr c26;have c26b1:((rd t279 (rd t288 x27_1)) != 0)=false:=bne_eq_false_iff_eq.mpr c26;clear c26;by_cases c27:(rd t288 x27_1) < (x5_1.length:Int)
           ·
            rw[if_pos c27] at H;have c27b0:decide ((rd t288 x27_1) < (x5_1.length:Int))=true:=dt' c27;clear c27;obtain ⟨y300,hy300⟩:∃ y_:List Int,y_=(x5_1.set ((rd t288 x27_1):Int).toNat 1):=⟨_,rfl⟩
            replace H:(spec_seCount.l0 k1 t279 y300 x6_1 t288 (t288.length:Int) (wrap64 (x27_1+1)) l0_0 a0_1)=some (r1,r2):=by first|(rw[hy300];with_reducible exact H)|(have H2_:=(Option.bind_some _ _).symm.trans H;rw[hy300];with_reducible exact H2_)|(have H2_:=(Option.bind_some _ _).symm.trans H;with_reducible exact H2_)|with_reducible exact H|(rw[hy300];exact H)|exact H
            have Ny300:=am' hy300;clear hy300;have H':=am' H;clear H;have p298:0≤(x27_1:Int):=od' xa';have q298:x27_1 < (t288.length:Int):=od' xa';obtain ⟨ad298,e298,hx298_0⟩:=Kd.at_int (Kd.R_reads' HO_25.out).2.2 x27_1 p298 q298;cases e298;replace p298:=eq_true p298;replace q298:=eq_true q298;have p299:0≤((rd t288 x27_1):Int):=od' xa';have q299:(rd t288 x27_1) < (t279.length:Int):=od' xa';obtain ⟨ad299,e299,hx299_0⟩:=Kd.at_int (Kd.R_reads' HO_4.out).2.2 (rd t288 x27_1) p299 q299;cases e299;replace p299:=eq_true p299;replace q299:=eq_true q299;have p28:0≤((rd t288 x27_1):Int):=od' xa';have q28:((rd t288 x27_1):Int) < ((x5_1.length:Int):Int):=od' xa';obtain ⟨go28,co28,eo28,gb28,gl28,cl28,HG28⟩:=Kd.R_form HO_5.out (by omega)
            (first|cases eo28|(injection eo28 with ea_ en_ ec_;(first|subst ea_|(injection ea_ with ea_;subst ea_));subst ec_;clear en_))
            have GB28:=am' gb28;have GG28:=am' HG28;clear gb28 gl28 HG28;obtain ⟨hx28_0,hf28_0⟩:=Kd.R_celln 0 HO_5.out ((rd t288 x27_1):Int) p28 q28;replace p28:=eq_true p28;replace q28:=eq_true q28;have HP29:=Kd.R_putg HO_5.out ((rd t288 x27_1):Int) 1;go_wp2_with (first|((with_reducible refine gate_store (t:=3) (p:=38) rfl ?_);refine store_event (t:=3) (p:=38) (v:=?vo_w30) (w1:=(wr.setCell ⟨go28,((rd t288 x27_1):Int).toNat,none⟩ (.int .i64 1))) ?hg ?ho ?hn ?hr ?_;(case ho=>rfl);(case hg=>rfl);(case hn=>rfl);(case hr=>first|(go_simp;done)|(go_simp;rfl));intro w30 hw;have hg:wr.grownBy w30 (some go28):=(by rw[hw];exact HP29.2);have hp_:Kd.R (Kd.int .i64) 3 w30 w.heap.size (fun k_=>some k_≠(.slice (some ad299) t279.length co13:Value).ownBlock∧some k_≠(v286:Value).ownBlock∧some k_≠(.slice (some ad298) t288.length co20:Value).ownBlock) (.slice (some ⟨go28,0,none⟩) x5_1.length co28) y300:=(by rw[hw,Ny300.out];exact HP29.1);clear HP29;have n0_:=am' (Kd.R_after (v:=(.slice (some ⟨go28,0,none⟩) x5_1.length co28)) (v1:=(.slice (some ⟨go28,0,none⟩) x5_1.length co28)) (ok:=(fun k_=>some k_≠(v286:Value).ownBlock∧some k_≠(.slice (some ad298) t288.length co20:Value).ownBlock)) (by (with_reducible repeat (first|apply ra'|apply rn'|apply rw'));exact Kd.R_mono HO_4.out (fun _ hk=>⟨⟨hk.2.1,hk.2.2⟩,hk.1⟩)) hg (.inl rfl));have n1_:=am' (hp_);have n2_:=am' (Kd.R_after (v:=(.slice (some ⟨go28,0,none⟩) x5_1.length co28)) (v1:=(.slice (some ⟨go28,0,none⟩) x5_1.length co28)) (ok:=(fun k_=>some k_≠(.slice (some ad299) t279.length co13:Value).ownBlock∧some k_≠(.slice (some ad298) t288.length co20:Value).ownBlock)) (by (with_reducible repeat (first|apply ra'|apply rn'|apply rw'));exact Kd.R_mono HO_6.out (fun _ hk=>⟨⟨hk.1,hk.2.2⟩,hk.2.1⟩)) hg (.inl rfl));have n3_:=am' (Kd.R_after (v:=(.slice (some ⟨go28,0,none⟩) x5_1.length co28)) (v1:=(.slice (some ⟨go28,0,none⟩) x5_1.length co28)) (ok:=(fun k_=>some k_≠(.slice (some ad299) t279.length co13:Value).ownBlock∧some k_≠(v286:Value).ownBlock)) (by (with_reducible repeat (first|apply ra'|apply rn'|apply rw'));exact Kd.R_mono HO_25.out (fun _ hk=>⟨⟨hk.1,hk.2.2⟩,hk.2.1⟩)) hg (.inl rfl));have n4_:=am' (blk_grown (g:=gb274) (o := .cells #[.slice A0_0 l0_0.length c0_0, .int .i64 a0_1] 28 (0,0)) (kk' BK274.out) hg (Kd.R_ne HO_5.out BK274.out (by decide)));have n5_:=am' ((by rw[hw];exact bs' (HB.out) GB28.out:Below w.heap.size w w30));clear HO_4;clear HO_5;clear HO_6;clear HO_25;clear BK274;clear HB;have HO_4:=n0_;have HO_5:=n1_;have HO_6:=n2_;have HO_25:=n3_;have BK274:=n4_;have HB:=n5_;clear n0_ n1_ n2_ n3_ n4_ n5_;clear hg hw hp_));go_roundg k1
            case measure=>have:=HK1.out;omega
            case rel=>exact ⟨(y300),(x6_1),(wrap64 (x27_1+1)),xs',H',⟨by have:=HK1.out;omega⟩,⟨by (with_reducible repeat (first|apply ra'|apply rn'|apply rw'));exact Kd.R_mono HO_4.out (fun _ hk=>⟨hk.2,⟨hk.1.1,hk.1.2⟩⟩)⟩,⟨kr' HO_5.out⟩,⟨by (with_reducible repeat (first|apply ra'|apply rn'|apply rw'));exact Kd.R_mono HO_6.out (fun _ hk=>⟨hk.1.1,⟨hk.2,hk.1.2⟩⟩)⟩,⟨by (with_reducible repeat (first|apply ra'|apply rn'|apply rw'));exact Kd.R_mono HO_25.out (fun _ hk=>⟨hk.1.1,⟨hk.2,hk.1.2⟩⟩)⟩,⟨kk' BK274.out⟩,⟨yb' GE274.out⟩⟩
           ·
            rw[if_neg c27] at H;exact absurd H (by simp)
          ·
           rw[if_neg c26] at H;have c26b0:((rd t279 (rd t288 x27_1)) == 0)=false:=beq_eq_false_iff_ne.mpr c26;have c26b1:((rd t279 (rd t288 x27_1)) != 0)=true:=bne_iff_ne.mpr c26;replace H:=Option.bind_eq_some_iff.mp H;obtain ⟨⟨t301,t304⟩,A310,H⟩:=H;replace H:((spec_seNext.f k1 l0_0 a0_1 t279 t301 t304).bind fun t306=>(spec_seCount.l1 k1 t279 x5_1 x6_1 (rd t288 x27_1) t288 (t288.length:Int) x27_1 t306 (t306.length:Int) 0 l0_0 a0_1 t301 t304))=some (r1,r2):=H;have A31:=am' A310;clear A310;replace H:=Option.bind_eq_some_iff.mp H;obtain ⟨t306,A320,H⟩:=H;replace H:(spec_seCount.l1 k1 t279 x5_1 x6_1 (rd t288 x27_1) t288 (t288.length:Int) x27_1 t306 (t306.length:Int) 0 l0_0 a0_1 t301 t304)=some (r1,r2):=H;have A32:=am' A320;clear A320;have H':=am' H;clear H;have p298:0≤(x27_1:Int):=od' xa';have q298:x27_1 < (t288.length:Int):=od' xa';obtain ⟨ad298,e298,hx298_0⟩:=Kd.at_int (Kd.R_reads' HO_25.out).2.2 x27_1 p298 q298;cases e298;replace p298:=eq_true p298;replace q298:=eq_true q298;have p299:0≤((rd t288 x27_1):Int):=od' xa';have q299:(rd t288 x27_1) < (t279.length:Int):=od' xa';obtain ⟨ad299,e299,hx299_0⟩:=Kd.at_int (Kd.R_reads' HO_4.out).2.2 (rd t288 x27_1) p299 q299;cases e299;replace p299:=eq_true p299;replace q299:=eq_true q299;have hcz33_0:wr.cell? ⟨gb274,0,none⟩=some (.slice A0_0 l0_0.length c0_0):=(bc' BK274.out 0).trans rfl;have hcz33_1:wr.cell? ⟨gb274,1,none⟩=some (.int .i64 a0_1):=(bc' BK274.out 1).trans rfl;have hfz33_0:=bf' BK274.out 0;have hfz33_1:=bf' BK274.out 1;go_wp2_with (first|((with_reducible refine gate_callee (f:=28) rfl ?_);refine goesL_ (some 43) rfl rfl Try.func28 xk' rfl #[.int .i64 (rd t288 x27_1), .int .i64 (l0_0.length:Int)] rfl xl' ?_;(with_reducible refine (spec_seState.calls k1 (rd t288 x27_1) (l0_0.length:Int) t301 t304 _ A31.out).mono ?_);rintro e w34 ⟨v302,rfl,ho0,hb⟩;refine ⟨_,rfl,?_⟩;have n0_:=am' (rb' (kr' HO_4.out) hb);have n1_:=am' (rb' (kr' HO_5.out) hb);have n2_:=am' (rb' (kr' HO_6.out) hb);have n3_:=am' (rb' (kr' HO_25.out) hb);have n4_:=am' (Kd.R_lower ho0 (bz' (yb' GE274.out)));have n5_:=am' (bb' (g:=gb274) (o := .cells #[.slice A0_0 l0_0.length c0_0, .int .i64 a0_1] 28 (0,0)) (kk' BK274.out) hb);have n6_:=am' (bt' (yb' GE274.out) hb);clear HO_4;clear HO_5;clear HO_6;clear HO_25;clear BK274;clear HB;have HO_4:=n0_;have HO_5:=n1_;have HO_6:=n2_;have HO_25:=n3_;have HO303:=n4_;have BK274:=n5_;have HB:=n6_;clear n0_ n1_ n2_ n3_ n4_ n5_ n6_;(try clear hb);(try clear hb2);(try clear hk);(try clear hi);(try clear ho0))|((with_reducible refine gate_dst (N:=9) rfl ?_);refine box_event ?hg (N:=9) ?hd (cs:=#[.slice none 0 0, .bool false]) (t:=54) ?hr ?_;(case hd=>rfl);(case hg=>rfl);(case hr=>first|(go_simp;done)|(go_simp;rfl));intro gb305 hg w35 hbox hb;have n0_:=am' (rb' (kr' HO_4.out) hb);have n1_:=am' (rb' (kr' HO_5.out) hb);have n2_:=am' (rb' (kr' HO_6.out) hb);have n3_:=am' (rb' (kr' HO_25.out) hb);have n4_:=am' (rb' (kr' HO303.out) hb);have n5_:=am' (bb' (g:=gb274) (o := .cells #[.slice A0_0 l0_0.length c0_0, .int .i64 a0_1] 28 (0,0)) (kk' BK274.out) hb);have n6_:=am' (bt' (yb' GE274.out) hb);have n7_:=am' (hbox);have n8_:=am' ((by rw[hg];exact (bz' (yb' GE274.out)):w.heap.size≤gb305));have n9_:=am' ((by rw[hg];exact (bz' (yb' GE274.out)):w.heap.size≤gb305));have n10_:=am' ((by rw[hg];exact Nat.ne_of_lt (blk_lt (g:=gb274) (o := .cells #[.slice A0_0 l0_0.length c0_0, .int .i64 a0_1] 28 (0,0)) (kk' BK274.out)):gb274≠gb305));have n11_:=am' ((by rw[hg];exact Nat.ne_of_gt (blk_lt (g:=gb274) (o := .cells #[.slice A0_0 l0_0.length c0_0, .int .i64 a0_1] 28 (0,0)) (kk' BK274.out)):gb305≠gb274));clear HO_4;clear HO_5;clear HO_6;clear HO_25;clear HO303;clear BK274;clear HB;have HO_4:=n0_;have HO_5:=n1_;have HO_6:=n2_;have HO_25:=n3_;have HO303:=n4_;have BK274:=n5_;have HB:=n6_;have BK305:=n7_;have GW305:=n8_;have GE305:=n9_;have NB274_305:=n10_;have NB305_274:=n11_;clear n0_ n1_ n2_ n3_ n4_ n5_ n6_ n7_ n8_ n9_ n10_ n11_;clear hb hbox hg;obtain ⟨Ao36,co36,eo36⟩:=Kd.R_slice HO303.out;subst eo36;have hnb37:=NB305_274.out;have hnc37:=NB274_305.out;have hcz38_0:w35.cell? ⟨gb305,0,none⟩=some (.slice none 0 0):=(bc' BK305.out 0).trans rfl;have hcz38_1:w35.cell? ⟨gb305,1,none⟩=some (.bool false):=(bc' BK305.out 1).trans rfl;have hfz38_0:=bf' BK305.out 0;have hfz38_1:=bf' BK305.out 1;have hcz39_0:w35.cell? ⟨gb274,0,none⟩=some (.slice A0_0 l0_0.length c0_0):=(bc' BK274.out 0).trans rfl;have hcz39_1:w35.cell? ⟨gb274,1,none⟩=some (.int .i64 a0_1):=(bc' BK274.out 1).trans rfl;have hfz39_0:=bf' BK274.out 0;have hfz39_1:=bf' BK274.out 1)|((with_reducible refine gate_callee (f:=43) rfl ?_);refine goesL_ (some 47) rfl rfl Try.func43 xk' rfl #[.agg #[.slice A0_0 l0_0.length c0_0, .int .i64 a0_1], .slice (some ad299) t279.length co13, .agg #[.slice Ao36 t301.length co36, .bool t304]] rfl xl' ?_;(with_reducible refine (spec_seNext.calls k1 _ _ l0_0 a0_1 _ _ t279 _ _ t301 t304 t306 _ ?side1 ?side2 ?side3 ?side4 ?side5 ?side6 A32.out).mono ?_);(case side1=>exact cb' HR0_0.out (y2' GE274.out GE305.out));(case side2=>exact HC0_0.out);(case side3=>refine (Kd.R_reads' (e:=3) (base:=w.heap.size) (ok:=fun k_=>(some k_≠(v283:Value).ownBlock∧(some k_≠(v286:Value).ownBlock∧some k_≠(.slice (some ad298) t288.length co20:Value).ownBlock))) (n:=t279.length) (c:=co13) ?_).2.2;exact (by (with_reducible repeat (first|apply ra'|apply rn'|apply rw'));exact (Kd.R_mono (Kd.R_far (p:=⟨gb305,1,none⟩) (Kd.R_far (p:=⟨gb305,0,none⟩) (Kd.R_types HO_4.out BK305.out (by decide)) (fun _ hk=>hk.2) (.slice Ao36 t301.length co36)) (fun _ hk=>hk.2) (.bool t304)) (fun _ h_=>h_.1))));(case side4=>exact (Kd.R_reads' HO_4.out).2.1);(case side5=>refine (Kd.R_reads' (e:=4) (base:=w.heap.size) (ok:=fun k_=>True) (n:=t301.length) (c:=co36) ?_).2.2;exact (by (with_reducible repeat (first|apply ra'|apply rn'|apply rw'));exact (Kd.R_mono (Kd.R_far (p:=⟨gb305,1,none⟩) (Kd.R_far (p:=⟨gb305,0,none⟩) (Kd.R_types HO303.out BK305.out (by decide)) (fun _ hk=>hk.2) (.slice Ao36 t301.length co36)) (fun _ hk=>hk.2) (.bool t304)) (fun _ h_=>h_.1))));(case side6=>exact (Kd.R_reads' HO303.out).2.1);rintro e w40 ⟨v307,rfl,ho0,hb⟩;refine ⟨_,rfl,?_⟩;have n0_:=am' (rb' (by (with_reducible repeat (first|apply ra'|apply rn'|apply rw'));exact (Kd.R_mono (Kd.R_far (p:=⟨gb305,1,none⟩) (Kd.R_far (p:=⟨gb305,0,none⟩) (Kd.R_types HO_4.out BK305.out (by decide)) (fun _ hk=>hk.2) (.slice Ao36 t301.length co36)) (fun _ hk=>hk.2) (.bool t304)) (fun _ h_=>h_.1))) hb);have n1_:=am' (rb' (by (with_reducible repeat (first|apply ra'|apply rn'|apply rw'));exact (Kd.R_mono (Kd.R_far (p:=⟨gb305,1,none⟩) (Kd.R_far (p:=⟨gb305,0,none⟩) (Kd.R_types HO_5.out BK305.out (by decide)) (fun _ hk=>hk.2) (.slice Ao36 t301.length co36)) (fun _ hk=>hk.2) (.bool t304)) (fun _ h_=>h_.1))) hb);have n2_:=am' (rb' (by (with_reducible repeat (first|apply ra'|apply rn'|apply rw'));exact (Kd.R_mono (Kd.R_far (p:=⟨gb305,1,none⟩) (Kd.R_far (p:=⟨gb305,0,none⟩) (Kd.R_types HO_6.out BK305.out (by decide)) (fun _ hk=>hk.2) (.slice Ao36 t301.length co36)) (fun _ hk=>hk.2) (.bool t304)) (fun _ h_=>h_.1))) hb);have n3_:=am' (rb' (by (with_reducible repeat (first|apply ra'|apply rn'|apply rw'));exact (Kd.R_mono (Kd.R_far (p:=⟨gb305,1,none⟩) (Kd.R_far (p:=⟨gb305,0,none⟩) (Kd.R_types HO_25.out BK305.out (by decide)) (fun _ hk=>hk.2) (.slice Ao36 t301.length co36)) (fun _ hk=>hk.2) (.bool t304)) (fun _ h_=>h_.1))) hb);have n4_:=am' (rb' (by (with_reducible repeat (first|apply ra'|apply rn'|apply rw'));exact (Kd.R_mono (Kd.R_far (p:=⟨gb305,1,none⟩) (Kd.R_far (p:=⟨gb305,0,none⟩) (Kd.R_types HO303.out BK305.out (by decide)) (fun _ hk=>hk.2) (.slice Ao36 t301.length co36)) (fun _ hk=>hk.2) (.bool t304)) (fun _ h_=>h_.1))) hb);have n5_:=am' (Kd.N_lower (Kd.N_mono (ok':=fun k_=>some k_≠(.slice (some ad299) t279.length co13:Value).ownBlock∧some k_≠(v283:Value).ownBlock∧some k_≠(v286:Value).ownBlock∧some k_≠(.slice (some ad298) t288.length co20:Value).ownBlock∧some k_≠(.slice Ao36 t301.length co36:Value).ownBlock∧k_≠gb274∧k_≠gb305) ho0 (fun k_ hk_=>⟨(Kd.fresh' (Kd.R_lt (by (with_reducible repeat (first|apply ra'|apply rn'|apply rw'));exact (Kd.R_mono (Kd.R_far (p:=⟨gb305,1,none⟩) (Kd.R_far (p:=⟨gb305,0,none⟩) (Kd.R_types HO_4.out BK305.out (by decide)) (fun _ hk=>hk.2) (.slice Ao36 t301.length co36)) (fun _ hk=>hk.2) (.bool t304)) (fun _ h_=>h_.1)))) k_ hk_),(Kd.fresh' (Kd.R_lt (by (with_reducible repeat (first|apply ra'|apply rn'|apply rw'));exact (Kd.R_mono (Kd.R_far (p:=⟨gb305,1,none⟩) (Kd.R_far (p:=⟨gb305,0,none⟩) (Kd.R_types HO_5.out BK305.out (by decide)) (fun _ hk=>hk.2) (.slice Ao36 t301.length co36)) (fun _ hk=>hk.2) (.bool t304)) (fun _ h_=>h_.1)))) k_ hk_),(Kd.fresh' (Kd.R_lt (by (with_reducible repeat (first|apply ra'|apply rn'|apply rw'));exact (Kd.R_mono (Kd.R_far (p:=⟨gb305,1,none⟩) (Kd.R_far (p:=⟨gb305,0,none⟩) (Kd.R_types HO_6.out BK305.out (by decide)) (fun _ hk=>hk.2) (.slice Ao36 t301.length co36)) (fun _ hk=>hk.2) (.bool t304)) (fun _ h_=>h_.1)))) k_ hk_),(Kd.fresh' (Kd.R_lt (by (with_reducible repeat (first|apply ra'|apply rn'|apply rw'));exact (Kd.R_mono (Kd.R_far (p:=⟨gb305,1,none⟩) (Kd.R_far (p:=⟨gb305,0,none⟩) (Kd.R_types HO_25.out BK305.out (by decide)) (fun _ hk=>hk.2) (.slice Ao36 t301.length co36)) (fun _ hk=>hk.2) (.bool t304)) (fun _ h_=>h_.1)))) k_ hk_),(Kd.fresh' (Kd.R_lt (by (with_reducible repeat (first|apply ra'|apply rn'|apply rw'));exact (Kd.R_mono (Kd.R_far (p:=⟨gb305,1,none⟩) (Kd.R_far (p:=⟨gb305,0,none⟩) (Kd.R_types HO303.out BK305.out (by decide)) (fun _ hk=>hk.2) (.slice Ao36 t301.length co36)) (fun _ hk=>hk.2) (.bool t304)) (fun _ h_=>h_.1)))) k_ hk_),(Kd.freshB (g:=gb274) (o := .cells #[.slice A0_0 l0_0.length c0_0, .int .i64 a0_1] 28 (0,0)) (by (with_reducible repeat (first|refine kn' ?_ _|refine kd' ?_|refine ka' ?_ _));refine blk_far ?_ NB274_305.out _;(with_reducible repeat (first|refine kn' ?_ _|refine kd' ?_|refine ka' ?_ _));refine blk_far ?_ NB274_305.out _;(with_reducible repeat (first|refine kn' ?_ _|refine kd' ?_|refine ka' ?_ _));exact BK274.out) k_ hk_),(Kd.freshB (g:=gb305) (o := .cells #[.slice Ao36 t301.length co36, .bool t304] 54 (0,0)) (by (with_reducible repeat (first|refine kn' ?_ _|refine kd' ?_|refine ka' ?_ _));refine blk_put (cs:=#[.slice Ao36 t301.length co36, .bool false]) ?_ 1 _ rfl;(with_reducible repeat (first|refine kn' ?_ _|refine kd' ?_|refine ka' ?_ _));refine blk_put (cs:=#[.slice none 0 0, .bool false]) ?_ 0 _ rfl;(with_reducible repeat (first|refine kn' ?_ _|refine kd' ?_|refine ka' ?_ _));exact BK305.out) k_ hk_)⟩)) (bz' (y2' GE274.out GE305.out)));have n6_:=am' (bb' (g:=gb274) (o := .cells #[.slice A0_0 l0_0.length c0_0, .int .i64 a0_1] 28 (0,0)) (by (with_reducible repeat (first|refine kn' ?_ _|refine kd' ?_|refine ka' ?_ _));refine blk_far ?_ NB274_305.out _;(with_reducible repeat (first|refine kn' ?_ _|refine kd' ?_|refine ka' ?_ _));refine blk_far ?_ NB274_305.out _;(with_reducible repeat (first|refine kn' ?_ _|refine kd' ?_|refine ka' ?_ _));exact BK274.out) hb);have n7_:=am' (bb' (g:=gb305) (o := .cells #[.slice Ao36 t301.length co36, .bool t304] 54 (0,0)) (by (with_reducible repeat (first|refine kn' ?_ _|refine kd' ?_|refine ka' ?_ _));refine blk_put (cs:=#[.slice Ao36 t301.length co36, .bool false]) ?_ 1 _ rfl;(with_reducible repeat (first|refine kn' ?_ _|refine kd' ?_|refine ka' ?_ _));refine blk_put (cs:=#[.slice none 0 0, .bool false]) ?_ 0 _ rfl;(with_reducible repeat (first|refine kn' ?_ _|refine kd' ?_|refine ka' ?_ _));exact BK305.out) hb);have n8_:=am' (bt' (y2' GE274.out GE305.out) hb);clear HO_4;clear HO_5;clear HO_6;clear HO_25;clear HO303;clear BK274;clear BK305;clear HB;have HO_4:=n0_;have HO_5:=n1_;have HO_6:=n2_;have HO_25:=n3_;have HO303:=n4_;have HO308:=n5_;have BK274:=n6_;have BK305:=n7_;have HB:=n8_;clear n0_ n1_ n2_ n3_ n4_ n5_ n6_ n7_ n8_;(try clear hb);(try clear hb2);(try clear hk);(try clear hi);(try clear ho0);obtain ⟨Ao41,co41,eo41⟩:=Kd.N_slice HO308.out;subst eo41))
           go_loopg [49] k1 (fun kq v49 w'=>∃ (x5_2:List Int) (x6_2:List Int) (x49_2:Int),v49 = .int .i64 x49_2∧Aside0 (spec_seCount.l1 kq t279 x5_2 x6_2 (rd t288 x27_1) t288 (t288.length:Int) x27_1 t306 (t306.length:Int) x49_2 l0_0 a0_1 t301 t304=some (r1,r2))∧Aside0 (kq≤k1)∧Aside0 (Kd.R (Kd.int .i64) 3 w' w.heap.size (fun k_=>some k_≠(v283:Value).ownBlock∧some k_≠(v286:Value).ownBlock∧some k_≠((.slice (some ad298) t288.length co20):Value).ownBlock) (.slice (some ad299) t279.length co13) t279)∧Aside0 (Kd.R (Kd.int .i64) 3 w' w.heap.size (fun k_=>some k_≠((.slice (some ad299) t279.length co13):Value).ownBlock∧some k_≠(v286:Value).ownBlock∧some k_≠((.slice (some ad298) t288.length co20):Value).ownBlock) v283 x5_2)∧Aside0 (Kd.R (Kd.int .i64) 3 w' w.heap.size (fun k_=>some k_≠((.slice (some ad299) t279.length co13):Value).ownBlock∧some k_≠(v283:Value).ownBlock∧some k_≠((.slice (some ad298) t288.length co20):Value).ownBlock) v286 x6_2)∧Aside0 (Kd.R (Kd.int .i64) 3 w' w.heap.size (fun k_=>some k_≠((.slice (some ad299) t279.length co13):Value).ownBlock∧some k_≠(v283:Value).ownBlock∧some k_≠(v286:Value).ownBlock) (.slice (some ad298) t288.length co20) t288)∧Aside0 (Kd.N (Kd.slice 3 (Kd.int .i64)) 22 w' w.heap.size (fun k_=>some k_≠((.slice (some ad299) t279.length co13):Value).ownBlock∧some k_≠(v283:Value).ownBlock∧some k_≠(v286:Value).ownBlock∧some k_≠((.slice (some ad298) t288.length co20):Value).ownBlock∧some k_≠((.slice Ao36 t301.length co36):Value).ownBlock∧k_≠gb274∧k_≠gb305) (.slice Ao41 t306.length co41) t306)∧Aside0 (Kd.R Kd.bool 4 w' w.heap.size (fun _=>True) (.slice Ao36 t301.length co36) t301)∧Aside0 (w'.heap[gb274]? = some (.cells #[(.slice A0_0 l0_0.length c0_0), .int .i64 a0_1] 28 (0,0)))∧Aside0 (w'.heap[gb305]? = some (.cells #[(.slice Ao36 t301.length co36), .bool t304] 54 (0,0)))∧Aside0 (Below w.heap.size w w'))
           case atStart=>exact ⟨(x5_1),(x6_1),(0),xs',H',⟨Nat.le_refl _⟩,⟨kr' HO_4.out⟩,⟨kr' HO_5.out⟩,⟨kr' HO_6.out⟩,⟨kr' HO_25.out⟩,⟨kN' HO308.out⟩,⟨kr' HO303.out⟩,⟨kk' BK274.out⟩,⟨kk' BK305.out⟩,⟨y2' GE274.out GE305.out⟩⟩
           case round =>
            clear H';try clear c1
            try clear c2
            try clear p2
            try clear q2
            try clear hx2
            try clear hf2
            try clear c3
            try clear c4
            try clear c4b0
            try clear c4b1
            try clear c5
            try clear c5b0
            try clear c5b1
            try clear p6
            try clear c19
            try clear c21
            try clear c21b0
            try clear c22
            try clear c22b0
            try clear c23
            try clear c23b0
            try clear c24
            try clear c24b0
            try clear c25
            try clear c25b0
            try clear c26
            try clear c26b0
            try clear c26b1
            try clear c27
            try clear c27b0
            try clear c28
            try clear p28
            try clear q28
            try clear hx28
            try clear hf28
            try clear p29
            try clear q29
            try clear hx29
            try clear c37
            try clear c41
            try clear hcz33_0
            try clear hcz33_1
            try clear hcz38_0
            try clear hcz38_1
            try clear hcz39_0
            try clear hcz39_1
            try clear hfz33_0
            try clear hfz33_1
            try clear hfz38_0
            try clear hfz38_1
            try clear hfz39_0
            try clear hfz39_1
            try clear hx28_0
            try clear hx298_0
            try clear hx299_0
            try clear p2
            try clear p28
            try clear p298
            try clear p299
            try clear q28
            try clear q298
            try clear q299
            obtain ⟨x5_2,x6_2,x49_2,rfl,HA,HK2,HO_4,HO_5,HO_6,HO_25,HO_47,HO_306000,BK274,BK305,HB⟩:=hrel;cases gk with
            | zero=>exact absurd HA.out (by simp[spec_seCount.l1])
            | succ k2 =>
             have H:=HA.out;clear HA;simp only[spec_seCount.l1] at H;by_cases c42:x49_2 < (t306.length:Int)
             ·
              rw[if_pos c42] at H;have c42b0:decide (x49_2 < (t306.length:Int))=true:=dt' c42;clear c42;by_cases c43:0≤x49_2
              ·
               rw[if_pos c43] at H;have c43b0:decide (0≤x49_2)=true:=dt' c43;clear c43;by_cases c44:x49_2 < (t306.length:Int)
               ·
                rw[if_pos c44] at H;have c44b0:decide (x49_2 < (t306.length:Int))=true:=dt' c44;clear c44;replace H:=Option.bind_eq_some_iff.mp H;obtain ⟨⟨t310,t313⟩,A450,H⟩:=H;replace H:((spec_seIndex.f k2 t310 t313).bind fun t314=>(if 0≤(rd t288 x27_1) then (if (rd t288 x27_1) < (x5_2.length:Int) then (if 0≤t314 then (if t314 < (x5_2.length:Int) then ((some (x5_2.set ((rd t288 x27_1):Int).toNat (wrap64 ((rd x5_2 (rd t288 x27_1))+(rd x5_2 t314))):List Int)).bind fun y317=>(if (rd t288 x27_1) < (x6_2.length:Int) then (if (rd x6_2 (rd t288 x27_1))=0 then (if t314 < (x6_2.length:Int) then (spec_seCount.l1 k2 t279 y317 (x6_2.set ((rd t288 x27_1):Int).toNat (wrap64 ((rd x6_2 t314)+1))) (rd t288 x27_1) t288 (t288.length:Int) x27_1 t306 (t306.length:Int) (wrap64 (x49_2+1)) l0_0 a0_1 t301 t304) else (none)) else (if t314 < (x6_2.length:Int) then (if (wrap64 ((rd x6_2 t314)+1)) < (rd x6_2 (rd t288 x27_1)) then (spec_seCount.l1 k2 t279 y317 (x6_2.set ((rd t288 x27_1):Int).toNat (wrap64 ((rd x6_2 t314)+1))) (rd t288 x27_1) t288 (t288.length:Int) x27_1 t306 (t306.length:Int) (wrap64 (x49_2+1)) l0_0 a0_1 t301 t304) else (spec_seCount.l1 k2 t279 y317 x6_2 (rd t288 x27_1) t288 (t288.length:Int) x27_1 t306 (t306.length:Int) (wrap64 (x49_2+1)) l0_0 a0_1 t301 t304)) else (none))) else (none))) else (none)) else (none)) else (none)) else (none)))=some (r1,r2):=H;have A45:=am' A450;clear A450;replace H:=Option.bind_eq_some_iff.mp H;obtain ⟨t314,A460,H⟩:=H;replace H:(if 0≤(rd t288 x27_1) then (if (rd t288 x27_1) < (x5_2.length:Int) then (if 0≤t314 then (if t314 < (x5_2.length:Int) then ((some (x5_2.set ((rd t288 x27_1):Int).toNat (wrap64 ((rd x5_2 (rd t288 x27_1))+(rd x5_2 t314))):List Int)).bind fun y317=>(if (rd t288 x27_1) < (x6_2.length:Int) then (if (rd x6_2 (rd t288 x27_1))=0 then (if t314 < (x6_2.length:Int) then (spec_seCount.l1 k2 t279 y317 (x6_2.set ((rd t288 x27_1):Int).toNat (wrap64 ((rd x6_2 t314)+1))) (rd t288 x27_1) t288 (t288.length:Int) x27_1 t306 (t306.length:Int) (wrap64 (x49_2+1)) l0_0 a0_1 t301 t304) else (none)) else (if t314 < (x6_2.length:Int) then (if (wrap64 ((rd x6_2 t314)+1)) < (rd x6_2 (rd t288 x27_1)) then (spec_seCount.l1 k2 t279 y317 (x6_2.set ((rd t288 x27_1):Int).toNat (wrap64 ((rd x6_2 t314)+1))) (rd t288 x27_1) t288 (t288.length:Int) x27_1 t306 (t306.length:Int) (wrap64 (x49_2+1)) l0_0 a0_1 t301 t304) else (spec_seCount.l1 k2 t279 y317 x6_2 (rd t288 x27_1) t288 (t288.length:Int) x27_1 t306 (t306.length:Int) (wrap64 (x49_2+1)) l0_0 a0_1 t301 t304)) else (none))) else (none))) else (none)) else (none)) else (none)) else (none))=some (r1,r2):=H;have A46:=am' A460;clear A460;by_cases c47:0≤(rd t288 x27_1)
                ·
                 rw[if_pos c47] at H;have c47b0:decide (0≤(rd t288 x27_1))=true:=dt' c47;clear c47;by_cases c48:(rd t288 x27_1) < (x5_2.length:Int)
                 ·
                  rw[if_pos c48] at H;have c48b0:decide ((rd t288 x27_1) < (x5_2.length:Int))=true:=dt' c48;clear c48;by_cases c49:0≤t314
                  ·
                   rw[if_pos c49] at H;have c49b0:decide (0≤t314)=true:=dt' c49;clear c49;by_cases c50:t314 < (x5_2.length:Int)
                   ·
                    rw[if_pos c50] at H;have c50b0:decide (t314 < (x5_2.length:Int))=true:=dt' c50;clear c50;obtain ⟨y317,hy317⟩:∃ y_:List Int,y_=(x5_2.set ((rd t288 x27_1):Int).toNat (wrap64 ((rd x5_2 (rd t288 x27_1))+(rd x5_2 t314)))):=⟨_,rfl⟩
                    replace H:(if (rd t288 x27_1) < (x6_2.length:Int) then (if (rd x6_2 (rd t288 x27_1))=0 then (if t314 < (x6_2.length:Int) then (spec_seCount.l1 k2 t279 y317 (x6_2.set ((rd t288 x27_1):Int).toNat (wrap64 ((rd x6_2 t314)+1))) (rd t288 x27_1) t288 (t288.length:Int) x27_1 t306 (t306.length:Int) (wrap64 (x49_2+1)) l0_0 a0_1 t301 t304) else (none)) else (if t314 < (x6_2.length:Int) then (if (wrap64 ((rd x6_2 t314)+1)) < (rd x6_2 (rd t288 x27_1)) then (spec_seCount.l1 k2 t279 y317 (x6_2.set ((rd t288 x27_1):Int).toNat (wrap64 ((rd x6_2 t314)+1))) (rd t288 x27_1) t288 (t288.length:Int) x27_1 t306 (t306.length:Int) (wrap64 (x49_2+1)) l0_0 a0_1 t301 t304) else (spec_seCount.l1 k2 t279 y317 x6_2 (rd t288 x27_1) t288 (t288.length:Int) x27_1 t306 (t306.length:Int) (wrap64 (x49_2+1)) l0_0 a0_1 t301 t304)) else (none))) else (none))=some (r1,r2):=by first|(rw[hy317];with_reducible exact H)|(have H2_:=(Option.bind_some _ _).symm.trans H;rw[hy317];with_reducible exact H2_)|(have H2_:=(Option.bind_some _ _).symm.trans H;with_reducible exact H2_)|with_reducible exact H|(rw[hy317];exact H)|exact H
                    have Ny317:=am' hy317;clear hy317;by_cases c52:(rd t288 x27_1) < (x6_2.length:Int)
                    ·
                     rw[if_pos c52] at H;have c52b0:decide ((rd t288 x27_1) < (x6_2.length:Int))=true:=dt' c52;clear c52;by_cases c53:(rd x6_2 (rd t288 x27_1))=0
                     ·
                      rw[if_pos c53] at H;have c53b0:((rd x6_2 (rd t288 x27_1)) == 0)=true:=beq_iff_eq.mpr c53;have c53b1:((rd x6_2 (rd t288 x27_1)) != 0)=false:=bne_eq_false_iff_eq.mpr c53;clear c53;by_cases c54:t314 < (x6_2.length:Int)
                      ·
                       rw[if_pos c54] at H;have c54b0:decide (t314 < (x6_2.length:Int))=true:=dt' c54;clear c54;obtain ⟨y320,hy320⟩:∃ y_:List Int,y_=(x6_2.set ((rd t288 x27_1):Int).toNat (wrap64 ((rd x6_2 t314)+1))):=⟨_,rfl⟩
                       replace H:(spec_seCount.l1 k2 t279 y317 y320 (rd t288 x27_1) t288 (t288.length:Int) x27_1 t306 (t306.length:Int) (wrap64 (x49_2+1)) l0_0 a0_1 t301 t304)=some (r1,r2):=by first|(rw[hy320];with_reducible exact H)|(have H2_:=(Option.bind_some _ _).symm.trans H;rw[hy320];with_reducible exact H2_)|(have H2_:=(Option.bind_some _ _).symm.trans H;with_reducible exact H2_)|with_reducible exact H|(rw[hy320];exact H)|exact H
                       have Ny320:=am' hy320;clear hy320;have H':=am' H;clear H;have p309:0≤(x49_2:Int):=od' xa';have q309:x49_2 < (t306.length:Int):=od' xa';obtain ⟨ad309,A309_0,c309_0,e309,hx309_0,hl309_0,hi309_0⟩:=at_L2 (Kd.N_reads' HO_47.out).2.2 x49_2 p309 q309;cases e309;obtain ⟨ce309,hce309,hMe309,hcc309⟩:=Kd.N_get HO_47.out [] x49_2 p309 (by first|exact q309|exact od' xa'|(have e_:=(Kd.N_reads' HO_47.out).1;omega));obtain ⟨ua309_0,uc309_0,rfl,ul309_0,ge309_0⟩:=Kd.FK_slice_open hMe309;have hv309_0:=hcc309 0 _ rfl;rw[Nat.add_zero,show ((Kd.slice 3 (Kd.int .i64))).sz=1 from rfl,Nat.mul_one] at hv309_0;replace hv309_0:=os' (hv309_0.symm.trans hx309_0);injection hv309_0 with hva_ hvn_ hvc_
                       rw[hva_] at ge309_0;rw[hvc_] at ul309_0;have HL309_0:=am' (show Kd.V (Kd.int .i64) 3 _ w.heap.size _ _ (rd_L2 t306 x49_2) from Kd.V_mk ul309_0 ge309_0);clear hva_ hvn_ hvc_ ge309_0 ul309_0;clear hcc309 hce309;have HR309_0:=am' hi309_0;have HC309_0:=am' hl309_0;clear hi309_0 hl309_0;replace p309:=eq_true p309;replace q309:=eq_true q309;have hnb56:=NB305_274.out;have hnc56:=NB274_305.out;have hcz57_0:wr.cell? ⟨gb305,0,none⟩=some (.slice Ao36 t301.length co36):=(bc' BK305.out 0).trans rfl;have hcz57_1:wr.cell? ⟨gb305,1,none⟩=some (.bool t304):=(bc' BK305.out 1).trans rfl;have hfz57_0:=bf' BK305.out 0;have hfz57_1:=bf' BK305.out 1
                       try go_wp2_with (first|((with_reducible refine gate_callee (f:=44) rfl ?_);refine goesL_ (some 55) rfl rfl Try.func44 xk' rfl #[.agg #[.slice Ao36 t301.length co36, .bool t304], .slice A309_0 (rd_L2 t306 x49_2).length c309_0] rfl xl' ?_;(with_reducible refine (spec_paCross.calls k2 _ _ t301 t304 _ _ (rd_L2 t306 x49_2) t310 t313 _ ?side1 ?side2 ?side3 ?side4 A45.out).mono ?_);(case side1=>exact kc' ((Kd.R_reads' HO_306000.out).2.2));(case side2=>exact (Kd.R_reads' HO_306000.out).2.1);(case side3=>exact kc' (kx' HR309_0.out));(case side4=>exact HC309_0.out);rintro e w58 ⟨v311,rfl,ho0,hb⟩;refine ⟨_,rfl,?_⟩;have n0_:=am' (rb' (kr' HO_4.out) hb);have n1_:=am' (rb' (kr' HO_5.out) hb);have n2_:=am' (rb' (kr' HO_6.out) hb);have n3_:=am' (rb' (kr' HO_25.out) hb);have n4_:=am' (Kd.N_elder' (kN' HO_47.out) (Kd.R_base ho0) hb);have n5_:=am' (Kd.R_elder' (kr' HO_306000.out) (Kd.R_base ho0) hb);have n6_:=am' (Kd.V_elder' (kV' HL309_0.out) (Kd.R_base ho0) hb);have n7_:=am' (Kd.R_lower (Kd.R_new' ho0 (Kd.R_lt (kr' HO_306000.out))) (bz' (y2' GE274.out GE305.out)));have n8_:=am' (bb' (g:=gb274) (o := .cells #[.slice A0_0 l0_0.length c0_0, .int .i64 a0_1] 28 (0,0)) (kk' BK274.out) hb);have n9_:=am' (bb' (g:=gb305) (o := .cells #[.slice Ao36 t301.length co36, .bool t304] 54 (0,0)) (kk' BK305.out) hb);have n10_:=am' (cb' (kx' HR309_0.out) hb);have n11_:=am' (bt' (y2' GE274.out GE305.out) hb);clear HO_4;clear HO_5;clear HO_6;clear HO_25;clear HO_47;clear HO_306000;clear HL309_0;clear BK274;clear BK305;clear HR309_0;clear HB;have HO_4:=n0_;have HO_5:=n1_;have HO_6:=n2_;have HO_25:=n3_;have HO_47:=n4_;have HO_306000:=n5_;have HL309_0:=n6_;have HO312:=n7_;have BK274:=n8_;have BK305:=n9_;have HR309_0:=n10_;have HB:=n11_;clear n0_ n1_ n2_ n3_ n4_ n5_ n6_ n7_ n8_ n9_ n10_ n11_;(try clear hb);(try clear hb2);(try clear hk);(try clear hi);(try clear ho0);obtain ⟨Ao59,co59,eo59⟩:=Kd.R_slice HO312.out;subst eo59)|((with_reducible refine gate_callee (f:=40) rfl ?_);refine goesL_ (some 56) rfl rfl Try.func40 xk' rfl #[.agg #[.slice Ao59 t310.length co59, .bool t313]] rfl xl' ?_;(with_reducible refine (spec_seIndex.calls k2 _ _ t310 t313 t314 _ ?side1 ?side2 A46.out).mono ?_);(case side1=>exact kc' ((Kd.R_reads' HO312.out).2.2));(case side2=>exact (Kd.R_reads' HO312.out).2.1);rintro e w60 ⟨rfl,hb⟩;refine ⟨_,rfl,?_⟩;have n0_:=am' (rb' (kr' HO_4.out) hb);have n1_:=am' (rb' (kr' HO_5.out) hb);have n2_:=am' (rb' (kr' HO_6.out) hb);have n3_:=am' (rb' (kr' HO_25.out) hb);have n4_:=am' (Kd.N_below (kN' HO_47.out) hb);have n5_:=am' (rb' (kr' HO_306000.out) hb);have n6_:=am' (Kd.V_below (kV' HL309_0.out) hb);have n7_:=am' (rb' (kr' HO312.out) hb);have n8_:=am' (bb' (g:=gb274) (o := .cells #[.slice A0_0 l0_0.length c0_0, .int .i64 a0_1] 28 (0,0)) (kk' BK274.out) hb);have n9_:=am' (bb' (g:=gb305) (o := .cells #[.slice Ao36 t301.length co36, .bool t304] 54 (0,0)) (kk' BK305.out) hb);have n10_:=am' (cb' (kx' HR309_0.out) hb);have n11_:=am' (bt' (y2' GE274.out GE305.out) hb);clear HO_4;clear HO_5;clear HO_6;clear HO_25;clear HO_47;clear HO_306000;clear HL309_0;clear HO312;clear BK274;clear BK305;clear HR309_0;clear HB;have HO_4:=n0_;have HO_5:=n1_;have HO_6:=n2_;have HO_25:=n3_;have HO_47:=n4_;have HO_306000:=n5_;have HL309_0:=n6_;have HO312:=n7_;have BK274:=n8_;have BK305:=n9_;have HR309_0:=n10_;have HB:=n11_;clear n0_ n1_ n2_ n3_ n4_ n5_ n6_ n7_ n8_ n9_ n10_ n11_;(try clear hb);(try clear hb2);(try clear hk);(try clear hi)))
                       have n0_:=am' (rw' HO_4.out);have n1_:=am' (rw' HO_5.out);have n2_:=am' (rw' HO_6.out);have n3_:=am' (rw' HO_25.out);have n4_:=am' (Kd.N_drew HO_47.out);have n5_:=am' (rw' HO_306000.out);have n6_:=am' (Kd.V_drew HL309_0.out);have n7_:=am' (rw' HO312.out);have n8_:=am' (kd' BK274.out);have n9_:=am' (kd' BK305.out);have n10_:=am' (cd' HR309_0.out);have n11_:=am' (be' HB.out);clear HO_4;clear HO_5;clear HO_6;clear HO_25;clear HO_47;clear HO_306000;clear HL309_0;clear HO312;clear BK274;clear BK305;clear HR309_0;clear HB;have HO_4:=n0_;have HO_5:=n1_;have HO_6:=n2_;have HO_25:=n3_;have HO_47:=n4_;have HO_306000:=n5_;have HL309_0:=n6_;have HO312:=n7_;have BK274:=n8_;have BK305:=n9_;have HR309_0:=n10_;have HB:=n11_;clear n0_ n1_ n2_ n3_ n4_ n5_ n6_ n7_ n8_ n9_ n10_ n11_;obtain ⟨Ao62,co62,eo62⟩:=Kd.R_slice HO_5.out
                       (first|subst eo62|(injection eo62 with f1_ f2_ f3_;have f4_:=f1_.symm;have f5_:=f3_.symm;clear f1_ f2_ f3_;subst f4_;subst f5_))
                       have p315:0≤((rd t288 x27_1):Int):=od' xa';have q315:(rd t288 x27_1) < (x5_2.length:Int):=od' xa';obtain ⟨ad315,e315,hx315_0⟩:=Kd.at_int (Kd.R_reads' HO_5.out).2.2 (rd t288 x27_1) p315 q315;cases e315;replace p315:=eq_true p315;replace q315:=eq_true q315;have p316:0≤(t314:Int):=od' xa';have q316:t314 < (x5_2.length:Int):=od' xa';obtain ⟨ad316,e316,hx316_0⟩:=Kd.at_int (Kd.R_reads' HO_5.out).2.2 t314 p316 q316;obtain rfl:ad315=ad316:=(by injection e316)
                       replace p316:=eq_true p316;replace q316:=eq_true q316;have p51:0≤((rd t288 x27_1):Int):=od' xa';have q51:((rd t288 x27_1):Int) < ((x5_2.length:Int):Int):=od' xa';obtain ⟨go51,co51,eo51,gb51,gl51,cl51,HG51⟩:=Kd.R_form HO_5.out (by omega)
                       (first|cases eo51|(injection eo51 with ea_ en_ ec_;(first|subst ea_|(injection ea_ with ea_;subst ea_));subst ec_;clear en_))
                       have GB51:=am' gb51;have GG51:=am' HG51;clear gb51 gl51 HG51;(first|simp only[add_plain] at hx315_0|skip)
                       (first|simp only[add_plain] at hx316_0|skip)
                       obtain ⟨hx51_0,hf51_0⟩:=Kd.R_celln 0 HO_5.out ((rd t288 x27_1):Int) p51 q51;replace p51:=eq_true p51;replace q51:=eq_true q51;have HP63:=Kd.R_putn HO_5.out ((rd t288 x27_1):Int) (wrap64 ((rd x5_2 (rd t288 x27_1))+(rd x5_2 t314)));rw[← Ny317.out] at HP63;have HQ63:=am' HP63;clear HP63;refine start_ (n:=11) (S:=fun w'=>w'.cell? ⟨go51,((rd t288 x27_1)).toNat,none⟩=some (.int .i64 (rd x5_2 (rd t288 x27_1)))∧w'.cell? ⟨go51,(t314).toNat,none⟩=some (.int .i64 (rd x5_2 t314))) (ds:=[10]) #[false,false,false,false,false,false,false,false,false,false,false] xk' rfl rfl ⟨hx315_0,hx316_0⟩ (fun hHeld=>?_);refine with_tabW spec_seCount.tab13 spec_seCount.bits13 (fun HT_ HW_=>?_);generalize w60.drew=w61 at HO_4 HO_5 HO_6 HO_25 HO_47 HO_306000 HL309_0 HO312 BK274 BK305 HR309_0 HB GG51 HQ63 hf51_0 hx315_0 hx316_0 hx51_0 hHeld ⊢
                       refine pure_ (i:=0) (N:=some 57) (v:=?_) (a':=?_) #[true,false,false,false,false,false,false,false,false,false,false] rfl rfl (any_of HT_.out xk') (fun _ _ _ h=>h) (Or.inl ⟨by rfl,?_⟩) ?_ ?_
                       rotate_left
                       ·
                        intro w';go_simp;with_reducible rfl
                       rotate_left
                       ·
                        simp only[Act.put,sa',sb',sc',i64_w,i32_w];rfl
                       refine pure_ (i:=1) (N:=some 58) (v:=?_) (a':=?_) #[true,true,false,false,false,false,false,false,false,false,false] rfl rfl (any_of HT_.out xk') (fun _ _ _ h=>h) (Or.inl ⟨by rfl,?_⟩) ?_ ?_
                       rotate_left
                       ·
                        intro w';go_simp;with_reducible rfl
                       rotate_left
                       ·
                        simp only[Act.put,sa',sb',sc',i64_w,i32_w];rfl
                       refine pure_ (i:=2) (N:=some 59) (v:=?_) (a':=?_) #[true,true,true,false,false,false,false,false,false,false,false] rfl rfl (any_of HT_.out xk') (fun _ _ _ h=>h) (Or.inl ⟨by rfl,?_⟩) ?_ ?_
                       rotate_left
                       ·
                        intro w';go_simp;with_reducible rfl
                       rotate_left
                       ·
                        simp only[Act.put,sa',sb',sc',i64_w,i32_w];rfl
                       refine pure_ (i:=4) (N:=some 61) (v:=?_) (a':=?_) #[true,true,true,false,true,false,false,false,false,false,false] rfl rfl (any_of HT_.out xk') (fun _ _ _ h=>h) (Or.inl ⟨by rfl,?_⟩) ?_ ?_
                       rotate_left
                       ·
                        intro w';go_simp;with_reducible rfl
                       rotate_left
                       ·
                        simp only[Act.put,sa',sb',sc',i64_w,i32_w];rfl
                       refine pure_ (i:=5) (N:=some 62) (v:=?_) (a':=?_) #[true,true,true,false,true,true,false,false,false,false,false] rfl rfl (any_of HT_.out xk') (fun _ _ _ h=>h) (Or.inl ⟨by rfl,?_⟩) ?_ ?_
                       rotate_left
                       ·
                        intro w';go_simp;with_reducible rfl
                       rotate_left
                       ·
                        simp only[Act.put,sa',sb',sc',i64_w,i32_w];rfl
                       refine pure_ (i:=6) (N:=some 63) (v:=?_) (a':=?_) #[true,true,true,false,true,true,true,false,false,false,false] rfl rfl (any_of HT_.out xk') (fun _ _ _ h=>h) (Or.inl ⟨by rfl,?_⟩) ?_ ?_
                       rotate_left
                       ·
                        intro w';go_simp;with_reducible rfl
                       rotate_left
                       ·
                        simp only[Act.put,sa',sb',sc',i64_w,i32_w];rfl
                       refine take_ (i:=3) (N:=some 60) (v:=?_) (a':=?_) #[true,true,true,true,true,true,true,false,false,false,false] rfl rfl (take_ofW HT_.out HW_.out xk') (fun _ _ _ h=>h) (Or.inl ⟨by rfl,?_⟩) hHeld ?_ ?_
                       rotate_left
                       ·
                        rintro w' ⟨s0,s1⟩
                        go_simp;with_reducible rfl
                       rotate_left
                       ·
                        simp only[Act.put,sa',sb',sc',i64_w,i32_w];rfl
                       refine take_ (i:=7) (N:=some 64) (v:=?_) (a':=?_) #[true,true,true,true,true,true,true,true,false,false,false] rfl rfl (take_ofW HT_.out HW_.out xk') (fun _ _ _ h=>h) (Or.inl ⟨by rfl,?_⟩) hHeld ?_ ?_
                       rotate_left
                       ·
                        rintro w' ⟨s0,s1⟩
                        go_simp;with_reducible rfl
                       rotate_left
                       ·
                        simp only[Act.put,sa',sb',sc',i64_w,i32_w];rfl
                       refine pure_ (i:=8) (N:=some 65) (v:=?_) (a':=?_) #[true,true,true,true,true,true,true,true,true,false,false] rfl rfl (any_of HT_.out xk') (fun _ _ _ h=>h) (Or.inl ⟨by rfl,?_⟩) ?_ ?_
                       rotate_left
                       ·
                        intro w';go_simp;with_reducible rfl
                       rotate_left
                       ·
                        simp only[Act.put,sa',sb',sc',i64_w,i32_w];rfl
                       refine pure_ (i:=9) (N:=some 66) (v:=?_) (a':=?_) #[true,true,true,true,true,true,true,true,true,true,false] rfl rfl (any_of HT_.out xk') (fun _ _ _ h=>h) (Or.inl ⟨by rfl,?_⟩) ?_ ?_
                       rotate_left
                       ·
                        intro w';go_simp;with_reducible rfl
                       rotate_left
                       ·
                        simp only[Act.put,sa',sb',sc',i64_w,i32_w];rfl
                       refine last_ (i:=10) (N:=none) #[true,true,true,true,true,true,true,true,true,true,true] rfl rfl (one_of HT_.out xk') (by decide) (fun K hK=>?_);refine skip_ (w1:=?_) (by rfl) rfl ?_ ?_
                       rotate_left
                       ·
                        go_simp;rfl
                       refine hK.out _ _ ?_
                       clear hK K;refine done_ (done_of HT_.out xk') ?_
                       try go_wp2
                       have n0_:Aside0 (Kd.R (Kd.int .i64) 3 (w61.setCell ⟨go51,((rd t288 x27_1):Int).toNat,none⟩ (.int .i64 (wrap64 ((rd x5_2 (rd t288 x27_1))+(rd x5_2 t314))))) w.heap.size (fun k_=>some k_≠(.slice (some ⟨go51,0,none⟩) x5_2.length co62:Value).ownBlock∧some k_≠(v286:Value).ownBlock∧some k_≠(.slice (some ad298) t288.length co20:Value).ownBlock) (.slice (some ad299) t279.length co13) t279):=⟨by (with_reducible repeat (first|apply ra'|apply rn'|apply rw'));exact Kd.R_mono (Kd.R_far (p:=⟨go51,((rd t288 x27_1):Int).toNat,none⟩) (Kd.R_mono HO_4.out (fun k_ hk=>(⟨hk,fun e_=>hk.1 (by rw[e_];rfl)⟩:_∧k_≠go51))) (fun _ hk=>hk.2) (.int .i64 (wrap64 ((rd x5_2 (rd t288 x27_1))+(rd x5_2 t314))))) (fun _ hk=>⟨hk.1.1,⟨hk.1.2.1,hk.1.2.2⟩⟩)⟩
                       have n1_:Aside0 (Kd.R (Kd.int .i64) 3 (w61.setCell ⟨go51,((rd t288 x27_1):Int).toNat,none⟩ (.int .i64 (wrap64 ((rd x5_2 (rd t288 x27_1))+(rd x5_2 t314))))) w.heap.size (fun k_=>some k_≠(.slice (some ad299) t279.length co13:Value).ownBlock∧some k_≠(v286:Value).ownBlock∧some k_≠(.slice (some ad298) t288.length co20:Value).ownBlock) (.slice (some ⟨go51,0,none⟩) x5_2.length co62) y317):=⟨kr' HQ63.out⟩
                       have n2_:Aside0 (Kd.R (Kd.int .i64) 3 (w61.setCell ⟨go51,((rd t288 x27_1):Int).toNat,none⟩ (.int .i64 (wrap64 ((rd x5_2 (rd t288 x27_1))+(rd x5_2 t314))))) w.heap.size (fun k_=>some k_≠(.slice (some ad299) t279.length co13:Value).ownBlock∧some k_≠(.slice (some ⟨go51,0,none⟩) x5_2.length co62:Value).ownBlock∧some k_≠(.slice (some ad298) t288.length co20:Value).ownBlock) v286 x6_2):=⟨by (with_reducible repeat (first|apply ra'|apply rn'|apply rw'));exact Kd.R_mono (Kd.R_far (p:=⟨go51,((rd t288 x27_1):Int).toNat,none⟩) (Kd.R_mono HO_6.out (fun k_ hk=>(⟨hk,fun e_=>hk.2.1 (by rw[e_];rfl)⟩:_∧k_≠go51))) (fun _ hk=>hk.2) (.int .i64 (wrap64 ((rd x5_2 (rd t288 x27_1))+(rd x5_2 t314))))) (fun _ hk=>⟨hk.1.1,⟨hk.1.2.1,hk.1.2.2⟩⟩)⟩
                       have n3_:Aside0 (Kd.R (Kd.int .i64) 3 (w61.setCell ⟨go51,((rd t288 x27_1):Int).toNat,none⟩ (.int .i64 (wrap64 ((rd x5_2 (rd t288 x27_1))+(rd x5_2 t314))))) w.heap.size (fun k_=>some k_≠(.slice (some ad299) t279.length co13:Value).ownBlock∧some k_≠(.slice (some ⟨go51,0,none⟩) x5_2.length co62:Value).ownBlock∧some k_≠(v286:Value).ownBlock) (.slice (some ad298) t288.length co20) t288):=⟨by (with_reducible repeat (first|apply ra'|apply rn'|apply rw'));exact Kd.R_mono (Kd.R_far (p:=⟨go51,((rd t288 x27_1):Int).toNat,none⟩) (Kd.R_mono HO_25.out (fun k_ hk=>(⟨hk,fun e_=>hk.2.1 (by rw[e_];rfl)⟩:_∧k_≠go51))) (fun _ hk=>hk.2) (.int .i64 (wrap64 ((rd x5_2 (rd t288 x27_1))+(rd x5_2 t314))))) (fun _ hk=>⟨hk.1.1,⟨hk.1.2.1,hk.1.2.2⟩⟩)⟩
                       have n4_:Aside0 (Kd.N (Kd.slice 3 (Kd.int .i64)) 22 (w61.setCell ⟨go51,((rd t288 x27_1):Int).toNat,none⟩ (.int .i64 (wrap64 ((rd x5_2 (rd t288 x27_1))+(rd x5_2 t314))))) w.heap.size (fun k_=>some k_≠(.slice (some ad299) t279.length co13:Value).ownBlock∧some k_≠(.slice (some ⟨go51,0,none⟩) x5_2.length co62:Value).ownBlock∧some k_≠(v286:Value).ownBlock∧some k_≠(.slice (some ad298) t288.length co20:Value).ownBlock∧some k_≠(.slice Ao36 t301.length co36:Value).ownBlock∧some k_≠(.slice Ao59 t310.length co59:Value).ownBlock∧k_≠gb274∧k_≠gb305) (.slice (some ad309) t306.length co41) t306):=⟨by (with_reducible repeat (first|apply Kd.N_alloc|apply Kd.N_drewN|apply Kd.N_drew));exact Kd.N_mono (Kd.N_far (p:=⟨go51,((rd t288 x27_1):Int).toNat,none⟩) (Kd.N_mono HO_47.out (fun k_ hk=>(⟨hk,fun e_=>hk.1.2.1 (by rw[e_];rfl)⟩:_∧k_≠go51))) (fun _ hk=>hk.2) (.int .i64 (wrap64 ((rd x5_2 (rd t288 x27_1))+(rd x5_2 t314))))) (fun _ hk=>⟨hk.1.1.1,⟨hk.1.1.2.1,⟨hk.1.1.2.2.1,⟨hk.1.1.2.2.2.1,⟨hk.1.1.2.2.2.2.1,⟨hk.1.2,⟨hk.1.1.2.2.2.2.2.1,hk.1.1.2.2.2.2.2.2⟩⟩⟩⟩⟩⟩⟩)⟩
                       have n5_:Aside0 (Kd.R Kd.bool 4 (w61.setCell ⟨go51,((rd t288 x27_1):Int).toNat,none⟩ (.int .i64 (wrap64 ((rd x5_2 (rd t288 x27_1))+(rd x5_2 t314))))) w.heap.size (fun k_=>some k_≠(.slice Ao59 t310.length co59:Value).ownBlock) (.slice Ao36 t301.length co36) t301):=⟨by (with_reducible repeat (first|apply ra'|apply rn'|apply rw'));exact Kd.R_mono (Kd.R_far (p:=⟨go51,((rd t288 x27_1):Int).toNat,none⟩) (Kd.R_types HO_306000.out GG51.out (by decide)) (fun _ hk=>hk.2) (.int .i64 (wrap64 ((rd x5_2 (rd t288 x27_1))+(rd x5_2 t314))))) (fun _ hk=>hk.1.2)⟩
                       have n6_:Aside0 (Kd.V (Kd.int .i64) 3 (w61.setCell ⟨go51,((rd t288 x27_1):Int).toNat,none⟩ (.int .i64 (wrap64 ((rd x5_2 (rd t288 x27_1))+(rd x5_2 t314))))) w.heap.size (fun k_=>some k_≠(.slice (some ad299) t279.length co13:Value).ownBlock∧some k_≠(.slice (some ⟨go51,0,none⟩) x5_2.length co62:Value).ownBlock∧some k_≠(v286:Value).ownBlock∧some k_≠(.slice (some ad298) t288.length co20:Value).ownBlock∧some k_≠(.slice (some ad309) t306.length co41:Value).ownBlock∧some k_≠(.slice Ao36 t301.length co36:Value).ownBlock∧some k_≠(.slice Ao59 t310.length co59:Value).ownBlock∧k_≠gb274∧k_≠gb305) (.slice A309_0 (rd_L2 t306 x49_2).length c309_0) (rd_L2 t306 x49_2)):=⟨by (with_reducible repeat (first|apply Kd.V_alloc|apply Kd.V_drewN|apply Kd.V_drew));exact Kd.V_mono (Kd.V_far (p:=⟨go51,((rd t288 x27_1):Int).toNat,none⟩) (Kd.V_mono HL309_0.out (fun k_ hk=>(⟨hk,fun e_=>hk.1.1.2.1 (by rw[e_];rfl)⟩:_∧k_≠go51))) (fun _ hk=>hk.2) (.int .i64 (wrap64 ((rd x5_2 (rd t288 x27_1))+(rd x5_2 t314))))) (fun _ hk=>⟨hk.1.1.1.1,⟨hk.1.1.1.2.1,⟨hk.1.1.1.2.2.1,⟨hk.1.1.1.2.2.2.1,⟨hk.1.1.2,⟨hk.1.1.1.2.2.2.2.1,⟨hk.1.2,⟨hk.1.1.1.2.2.2.2.2.1,hk.1.1.1.2.2.2.2.2.2⟩⟩⟩⟩⟩⟩⟩⟩)⟩
                       have n7_:Aside0 (Kd.R Kd.bool 4 (w61.setCell ⟨go51,((rd t288 x27_1):Int).toNat,none⟩ (.int .i64 (wrap64 ((rd x5_2 (rd t288 x27_1))+(rd x5_2 t314))))) w.heap.size (fun k_=>some k_≠(.slice Ao36 t301.length co36:Value).ownBlock) (.slice Ao59 t310.length co59) t310):=⟨by (with_reducible repeat (first|apply ra'|apply rn'|apply rw'));exact Kd.R_mono (Kd.R_far (p:=⟨go51,((rd t288 x27_1):Int).toNat,none⟩) (Kd.R_types HO312.out GG51.out (by decide)) (fun _ hk=>hk.2) (.int .i64 (wrap64 ((rd x5_2 (rd t288 x27_1))+(rd x5_2 t314))))) (fun _ hk=>hk.1.2)⟩
                       have n8_:Aside0 ((w61.setCell ⟨go51,((rd t288 x27_1):Int).toNat,none⟩ (.int .i64 (wrap64 ((rd x5_2 (rd t288 x27_1))+(rd x5_2 t314))))).heap[gb274]? = some (.cells #[.slice A0_0 l0_0.length c0_0, .int .i64 a0_1] 28 (0,0))):=⟨by (with_reducible repeat (first|refine kn' ?_ _|refine kd' ?_|refine ka' ?_ _));refine blk_far ?_ (by have h_:=Kd.R_ne HO_5.out BK274.out (by decide);intro e_;exact h_ (by rw[e_];rfl)) _;(with_reducible repeat (first|refine kn' ?_ _|refine kd' ?_|refine ka' ?_ _));exact BK274.out⟩
                       have n9_:Aside0 ((w61.setCell ⟨go51,((rd t288 x27_1):Int).toNat,none⟩ (.int .i64 (wrap64 ((rd x5_2 (rd t288 x27_1))+(rd x5_2 t314))))).heap[gb305]? = some (.cells #[.slice Ao36 t301.length co36, .bool t304] 54 (0,0))):=⟨by (with_reducible repeat (first|refine kn' ?_ _|refine kd' ?_|refine ka' ?_ _));refine blk_far ?_ (by have h_:=Kd.R_ne HO_5.out BK305.out (by decide);intro e_;exact h_ (by rw[e_];rfl)) _;(with_reducible repeat (first|refine kn' ?_ _|refine kd' ?_|refine ka' ?_ _));exact BK305.out⟩
                       have n10_:Aside0 (Below w.heap.size w (w61.setCell ⟨go51,((rd t288 x27_1):Int).toNat,none⟩ (.int .i64 (wrap64 ((rd x5_2 (rd t288 x27_1))+(rd x5_2 t314)))))):=⟨y3' GB51.out GE274.out GE305.out⟩
                       (try clear HO_4)
                       (try clear HO_5)
                       (try clear HO_6)
                       (try clear HO_25)
                       (try clear HO_47)
                       (try clear HO_306000)
                       (try clear HL309_0)
                       (try clear HO312)
                       (try clear BK274)
                       (try clear BK305)
                       (try clear HB)
                       generalize (w61.setCell ⟨go51,((rd t288 x27_1):Int).toNat,none⟩ (.int .i64 (wrap64 ((rd x5_2 (rd t288 x27_1))+(rd x5_2 t314)))))=w64 at n0_ n1_ n2_ n3_ n4_ n5_ n6_ n7_ n8_ n9_ n10_ ⊢
                       have HO_4:=n0_;have HO_5:=n1_;have HO_6:=n2_;have HO_25:=n3_;have HO_47:=n4_;have HO_306000:=n5_;have HL309_0:=n6_;have HO312:=n7_;have BK274:=n8_;have BK305:=n9_;have HB:=n10_;clear n0_ n1_ n2_ n3_ n4_ n5_ n6_ n7_ n8_ n9_ n10_;have n0_:=am' (rw' HO_4.out);have n1_:=am' (rw' HO_5.out);have n2_:=am' (rw' HO_6.out);have n3_:=am' (rw' HO_25.out);have n4_:=am' (Kd.N_drew HO_47.out);have n5_:=am' (rw' HO_306000.out);have n6_:=am' (Kd.V_drew HL309_0.out);have n7_:=am' (rw' HO312.out);have n8_:=am' (kd' BK274.out);have n9_:=am' (kd' BK305.out);have n10_:=am' (be' HB.out);clear HO_4;clear HO_5;clear HO_6;clear HO_25;clear HO_47;clear HO_306000;clear HL309_0;clear HO312;clear BK274;clear BK305;clear HB;have HO_4:=n0_;have HO_5:=n1_;have HO_6:=n2_;have HO_25:=n3_;have HO_47:=n4_;have HO_306000:=n5_;have HL309_0:=n6_;have HO312:=n7_;have BK274:=n8_;have BK305:=n9_;have HB:=n10_;clear n0_ n1_ n2_ n3_ n4_ n5_ n6_ n7_ n8_ n9_ n10_;obtain ⟨Ao66,co66,eo66⟩:=Kd.R_slice HO_6.out
                       (first|subst eo66|(injection eo66 with f1_ f2_ f3_;have f4_:=f1_.symm;have f5_:=f3_.symm;clear f1_ f2_ f3_;subst f4_;subst f5_))
                       have p318:0≤((rd t288 x27_1):Int):=od' xa';have q318:(rd t288 x27_1) < (x6_2.length:Int):=od' xa';obtain ⟨ad318,e318,hx318_0⟩:=Kd.at_int (Kd.R_reads' HO_6.out).2.2 (rd t288 x27_1) p318 q318;cases e318;replace p318:=eq_true p318;replace q318:=eq_true q318;refine start_ (n:=17) (S:=fun w'=>w'.cell? (ad318.add ((rd t288 x27_1)).toNat)=some (.int .i64 (rd x6_2 (rd t288 x27_1)))) (ds:=[]) #[false,false,false,false,false,false,false,false,false,false,false,false,false,false,false,false,false] xk' rfl rfl (hx318_0) (fun hHeld=>?_);refine with_tabW spec_seCount.tab14 spec_seCount.bits14 (fun HT_ HW_=>?_);generalize w64.drew=w65 at HO_4 HO_5 HO_6 HO_25 HO_47 HO_306000 HL309_0 HO312 BK274 BK305 HB HQ63 hx318_0 hHeld ⊢
                       refine pure_ (i:=0) (N:=some 67) (v:=?_) (a':=?_) #[true,false,false,false,false,false,false,false,false,false,false,false,false,false,false,false,false] rfl rfl (any_of HT_.out xk') (fun _ _ _ h=>h) (Or.inl ⟨by rfl,?_⟩) ?_ ?_
                       rotate_left
                       ·
                        intro w';go_simp;with_reducible rfl
                       rotate_left
                       ·
                        simp only[Act.put,sa',sb',sc',i64_w,i32_w];rfl
                       refine pure_ (i:=1) (N:=some 68) (v:=?_) (a':=?_) #[true,true,false,false,false,false,false,false,false,false,false,false,false,false,false,false,false] rfl rfl (any_of HT_.out xk') (fun _ _ _ h=>h) (Or.inl ⟨by rfl,?_⟩) ?_ ?_
                       rotate_left
                       ·
                        intro w';go_simp;with_reducible rfl
                       rotate_left
                       ·
                        simp only[Act.put,sa',sb',sc',i64_w,i32_w];rfl
                       refine pure_ (i:=2) (N:=some 69) (v:=?_) (a':=?_) #[true,true,true,false,false,false,false,false,false,false,false,false,false,false,false,false,false] rfl rfl (any_of HT_.out xk') (fun _ _ _ h=>h) (Or.inl ⟨by rfl,?_⟩) ?_ ?_
                       rotate_left
                       ·
                        intro w';go_simp;with_reducible rfl
                       rotate_left
                       ·
                        simp only[Act.put,sa',sb',sc',i64_w,i32_w];rfl
                       refine take_ (i:=3) (N:=some 70) (v:=?_) (a':=?_) #[true,true,true,true,false,false,false,false,false,false,false,false,false,false,false,false,false] rfl rfl (take_ofW HT_.out HW_.out xk') (fun _ _ _ h=>h) (Or.inl ⟨by rfl,?_⟩) hHeld ?_ ?_
                       rotate_left
                       ·
                        intro w' s0;go_simp;with_reducible rfl
                       rotate_left
                       ·
                        simp only[Act.put,sa',sb',sc',i64_w,i32_w];rfl
                       refine pure_ (i:=4) (N:=some 71) (v:=?_) (a':=?_) #[true,true,true,true,true,false,false,false,false,false,false,false,false,false,false,false,false] rfl rfl (any_of HT_.out xk') (fun _ _ _ h=>h) (Or.inl ⟨by rfl,?_⟩) ?_ ?_
                       rotate_left
                       ·
                        intro w';go_simp;with_reducible rfl
                       rotate_left
                       ·
                        simp only[Act.put,sa',sb',sc',i64_w,i32_w];rfl
                       refine pure_ (i:=5) (N:=some 72) (v:=?_) (a':=?_) #[true,true,true,true,true,true,false,false,false,false,false,false,false,false,false,false,false] rfl rfl (any_of HT_.out xk') (fun _ _ _ h=>h) (Or.inl ⟨by rfl,?_⟩) ?_ ?_
                       rotate_left
                       ·
                        intro w';go_simp;with_reducible rfl
                       rotate_left
                       ·
                        simp only[Act.put,sa',sb',sc',i64_w,i32_w];rfl
                       refine pure_ (i:=6) (N:=some 73) (v:=undef) (a':=?_) #[true,true,true,true,true,true,true,false,false,false,false,false,false,false,false,false,false] rfl rfl (any_of HT_.out xk') (fun _ _ _ h=>h) (Or.inr ⟨by rfl,rfl⟩) ?_ ?_
                       rotate_left
                       ·
                        simp only[Act.put,sa',sb',sc',i64_w,i32_w];rfl
                       refine pure_ (i:=7) (N:=some 74) (v:=undef) (a':=?_) #[true,true,true,true,true,true,true,true,false,false,false,false,false,false,false,false,false] rfl rfl (any_of HT_.out xk') (fun _ _ _ h=>h) (Or.inr ⟨by rfl,rfl⟩) ?_ ?_
                       rotate_left
                       ·
                        simp only[Act.put,sa',sb',sc',i64_w,i32_w];rfl
                       refine pure_ (i:=8) (N:=some 75) (v:=undef) (a':=?_) #[true,true,true,true,true,true,true,true,true,false,false,false,false,false,false,false,false] rfl rfl (any_of HT_.out xk') (fun _ _ _ h=>h) (Or.inr ⟨by rfl,rfl⟩) ?_ ?_
                       rotate_left
                       ·
                        simp only[Act.put,sa',sb',sc',i64_w,i32_w];rfl
                       refine pure_ (i:=9) (N:=some 76) (v:=undef) (a':=?_) #[true,true,true,true,true,true,true,true,true,true,false,false,false,false,false,false,false] rfl rfl (any_of HT_.out xk') (fun _ _ _ h=>h) (Or.inr ⟨by rfl,rfl⟩) ?_ ?_
                       rotate_left
                       ·
                        simp only[Act.put,sa',sb',sc',i64_w,i32_w];rfl
                       refine pure_ (i:=10) (N:=some 77) (v:=undef) (a':=?_) #[true,true,true,true,true,true,true,true,true,true,true,false,false,false,false,false,false] rfl rfl (any_of HT_.out xk') (fun _ _ _ h=>h) (Or.inr ⟨by rfl,rfl⟩) ?_ ?_
                       rotate_left
                       ·
                        simp only[Act.put,sa',sb',sc',i64_w,i32_w];rfl
                       refine pure_ (i:=11) (N:=some 78) (v:=undef) (a':=?_) #[true,true,true,true,true,true,true,true,true,true,true,true,false,false,false,false,false] rfl rfl (any_of HT_.out xk') (fun _ _ _ h=>h) (Or.inr ⟨by rfl,rfl⟩) ?_ ?_
                       rotate_left
                       ·
                        simp only[Act.put,sa',sb',sc',i64_w,i32_w];rfl
                       refine pure_ (i:=12) (N:=some 79) (v:=undef) (a':=?_) #[true,true,true,true,true,true,true,true,true,true,true,true,true,false,false,false,false] rfl rfl (any_of HT_.out xk') (fun _ _ _ h=>h) (Or.inr ⟨by rfl,rfl⟩) ?_ ?_
                       rotate_left
                       ·
                        simp only[Act.put,sa',sb',sc',i64_w,i32_w];rfl
                       refine pure_ (i:=13) (N:=some 80) (v:=undef) (a':=?_) #[true,true,true,true,true,true,true,true,true,true,true,true,true,true,false,false,false] rfl rfl (any_of HT_.out xk') (fun _ _ _ h=>h) (Or.inr ⟨by rfl,rfl⟩) ?_ ?_
                       rotate_left
                       ·
                        simp only[Act.put,sa',sb',sc',i64_w,i32_w];rfl
                       refine pure_ (i:=14) (N:=some 81) (v:=undef) (a':=?_) #[true,true,true,true,true,true,true,true,true,true,true,true,true,true,true,false,false] rfl rfl (any_of HT_.out xk') (fun _ _ _ h=>h) (Or.inr ⟨by rfl,rfl⟩) ?_ ?_
                       rotate_left
                       ·
                        simp only[Act.put,sa',sb',sc',i64_w,i32_w];rfl
                       refine pure_ (i:=15) (N:=some 82) (v:=undef) (a':=?_) #[true,true,true,true,true,true,true,true,true,true,true,true,true,true,true,true,false] rfl rfl (any_of HT_.out xk') (fun _ _ _ h=>h) (Or.inr ⟨by rfl,rfl⟩) ?_ ?_
                       rotate_left
                       ·
                        simp only[Act.put,sa',sb',sc',i64_w,i32_w];rfl
                       refine pure_ (i:=16) (N:=some 83) (v:=?_) (a':=?_) #[true,true,true,true,true,true,true,true,true,true,true,true,true,true,true,true,true] rfl rfl (any_of HT_.out xk') (fun _ _ _ h=>h) (Or.inl ⟨by rfl,?_⟩) ?_ ?_
                       rotate_left
                       ·
                        intro w';go_simp;with_reducible rfl
                       rotate_left
                       ·
                        simp only[Act.put,sa',sb',sc',i64_w,i32_w];rfl
                       refine done_ (done_of HT_.out xk') ?_
                       have p319:0≤(t314:Int):=od' xa';have q319:t314 < (x6_2.length:Int):=od' xa';obtain ⟨ad319,e319,hx319_0⟩:=Kd.at_int (Kd.R_reads' HO_6.out).2.2 t314 p319 q319;obtain rfl:ad318=ad319:=(by injection e319)
                       replace p319:=eq_true p319;replace q319:=eq_true q319;have p55:0≤((rd t288 x27_1):Int):=od' xa';have q55:((rd t288 x27_1):Int) < ((x6_2.length:Int):Int):=od' xa';obtain ⟨go55,co55,eo55,gb55,gl55,cl55,HG55⟩:=Kd.R_form HO_6.out (by omega)
                       (first|cases eo55|(injection eo55 with ea_ en_ ec_;(first|subst ea_|(injection ea_ with ea_;subst ea_));subst ec_;clear en_))
                       have GB55:=am' gb55;have GG55:=am' HG55;clear gb55 gl55 HG55;(first|simp only[add_plain] at hx318_0|skip)
                       (first|simp only[add_plain] at hx319_0|skip)
                       obtain ⟨hx55_0,hf55_0⟩:=Kd.R_celln 0 HO_6.out ((rd t288 x27_1):Int) p55 q55;replace p55:=eq_true p55;replace q55:=eq_true q55;obtain ⟨hy67_,hz67_⟩:=Kd.R_celln 0 HO_6.out ((rd t288 x27_1):Int) (od' xa') (od' xa');have HP67:=Kd.R_putg HO_6.out ((rd t288 x27_1):Int) (wrap64 ((rd x6_2 t314)+1))
                       try go_wp2_with (first|((with_reducible refine gate_store (t:=3) (p:=91) rfl ?_);refine store_event (t:=3) (p:=91) (v:=?vo_w68) (w1:=(w65.setCell ⟨go55,((rd t288 x27_1):Int).toNat,none⟩ (.int .i64 (wrap64 ((rd x6_2 t314)+1))))) ?hg ?ho ?hn ?hr ?_;(case ho=>rfl);(case hg=>rfl);(case hn=>rfl);(case hr=>first|(go_simp;done)|(go_simp;rfl));intro w68 hw;have hg:w65.grownBy w68 (some go55):=(by rw[hw];exact HP67.2);have hp_:Kd.R (Kd.int .i64) 3 w68 w.heap.size (fun k_=>some k_≠(.slice (some ad299) t279.length co13:Value).ownBlock∧some k_≠(.slice (some ⟨go51,0,none⟩) x5_2.length co62:Value).ownBlock∧some k_≠(.slice (some ad298) t288.length co20:Value).ownBlock) (.slice (some ⟨go55,0,none⟩) x6_2.length co66) y320:=(by rw[hw,Ny320.out];exact HP67.1);clear HP67;have n0_:=am' (Kd.R_after (v:=(.slice (some ⟨go55,0,none⟩) x6_2.length co66)) (v1:=(.slice (some ⟨go55,0,none⟩) x6_2.length co66)) (ok:=(fun k_=>some k_≠(.slice (some ⟨go51,0,none⟩) x5_2.length co62:Value).ownBlock∧some k_≠(.slice (some ad298) t288.length co20:Value).ownBlock)) (by (with_reducible repeat (first|apply ra'|apply rn'|apply rw'));exact Kd.R_mono HO_4.out (fun _ hk=>⟨⟨hk.1,hk.2.2⟩,hk.2.1⟩)) hg (.inl rfl));have n1_:=am' (Kd.R_after (v:=(.slice (some ⟨go55,0,none⟩) x6_2.length co66)) (v1:=(.slice (some ⟨go55,0,none⟩) x6_2.length co66)) (ok:=(fun k_=>some k_≠(.slice (some ad299) t279.length co13:Value).ownBlock∧some k_≠(.slice (some ad298) t288.length co20:Value).ownBlock)) (by (with_reducible repeat (first|apply ra'|apply rn'|apply rw'));exact Kd.R_mono HO_5.out (fun _ hk=>⟨⟨hk.1,hk.2.2⟩,hk.2.1⟩)) hg (.inl rfl));have n2_:=am' (hp_);have n3_:=am' (Kd.R_after (v:=(.slice (some ⟨go55,0,none⟩) x6_2.length co66)) (v1:=(.slice (some ⟨go55,0,none⟩) x6_2.length co66)) (ok:=(fun k_=>some k_≠(.slice (some ad299) t279.length co13:Value).ownBlock∧some k_≠(.slice (some ⟨go51,0,none⟩) x5_2.length co62:Value).ownBlock)) (by (with_reducible repeat (first|apply ra'|apply rn'|apply rw'));exact Kd.R_mono HO_25.out (fun _ hk=>⟨⟨hk.1,hk.2.1⟩,hk.2.2⟩)) hg (.inl rfl));have n4_:=am' (Kd.N_afterv (v:=(.slice (some ⟨go55,0,none⟩) x6_2.length co66)) (v1:=(.slice (some ⟨go55,0,none⟩) x6_2.length co66)) (ok:=(fun k_=>some k_≠(.slice (some ad299) t279.length co13:Value).ownBlock∧some k_≠(.slice (some ⟨go51,0,none⟩) x5_2.length co62:Value).ownBlock∧some k_≠(.slice (some ad298) t288.length co20:Value).ownBlock∧some k_≠(.slice Ao36 t301.length co36:Value).ownBlock∧some k_≠(.slice Ao59 t310.length co59:Value).ownBlock∧k_≠gb274∧k_≠gb305)) (by (with_reducible repeat (first|apply Kd.N_alloc|apply Kd.N_drewN|apply Kd.N_drew));exact Kd.N_mono HO_47.out (fun _ hk=>⟨⟨hk.1,⟨hk.2.1,⟨hk.2.2.2.1,⟨hk.2.2.2.2.1,⟨hk.2.2.2.2.2.1,⟨hk.2.2.2.2.2.2.1,hk.2.2.2.2.2.2.2⟩⟩⟩⟩⟩⟩,hk.2.2.1⟩)) hg (.inl rfl));have n5_:=am' (Kd.R_over' (v:=(.slice (some ⟨go55,0,none⟩) x6_2.length co66)) (kr' HO_306000.out) (Kd.R_typed HO_6.out) (by decide) hg);have n6_:=am' (blk_grown (g:=gb274) (o := .cells #[.slice A0_0 l0_0.length c0_0, .int .i64 a0_1] 28 (0,0)) (kk' BK274.out) hg (Kd.R_ne HO_6.out BK274.out (by decide)));have n7_:=am' (blk_grown (g:=gb305) (o := .cells #[.slice Ao36 t301.length co36, .bool t304] 54 (0,0)) (kk' BK305.out) hg (Kd.R_ne HO_6.out BK305.out (by decide)));have n8_:=am' (Kd.V_afterv (v:=(.slice (some ⟨go55,0,none⟩) x6_2.length co66)) (v1:=(.slice (some ⟨go55,0,none⟩) x6_2.length co66)) (ok:=(fun k_=>some k_≠(.slice (some ad299) t279.length co13:Value).ownBlock∧some k_≠(.slice (some ⟨go51,0,none⟩) x5_2.length co62:Value).ownBlock∧some k_≠(.slice (some ad298) t288.length co20:Value).ownBlock∧some k_≠(.slice (some ad309) t306.length co41:Value).ownBlock∧some k_≠(.slice Ao36 t301.length co36:Value).ownBlock∧some k_≠(.slice Ao59 t310.length co59:Value).ownBlock∧k_≠gb274∧k_≠gb305)) (by (with_reducible repeat (first|apply Kd.V_alloc|apply Kd.V_drewN|apply Kd.V_drew));exact Kd.V_mono HL309_0.out (fun _ hk=>⟨⟨hk.1,⟨hk.2.1,⟨hk.2.2.2.1,⟨hk.2.2.2.2.1,⟨hk.2.2.2.2.2.1,⟨hk.2.2.2.2.2.2.1,⟨hk.2.2.2.2.2.2.2.1,hk.2.2.2.2.2.2.2.2⟩⟩⟩⟩⟩⟩⟩,hk.2.2.1⟩)) hg (.inl rfl));have n9_:=am' (Kd.R_over' (v:=(.slice (some ⟨go55,0,none⟩) x6_2.length co66)) (kr' HO312.out) (Kd.R_typed HO_6.out) (by decide) hg);have n10_:=am' ((by rw[hw];exact bs' (HB.out) GB55.out:Below w.heap.size w w68));clear HO_4;clear HO_5;clear HO_6;clear HO_25;clear HO_47;clear HO_306000;clear BK274;clear BK305;clear HL309_0;clear HO312;clear HB;have HO_4:=n0_;have HO_5:=n1_;have HO_6:=n2_;have HO_25:=n3_;have HO_47:=n4_;have HO_306000:=n5_;have BK274:=n6_;have BK305:=n7_;have HL309_0:=n8_;have HO312:=n9_;have HB:=n10_;clear n0_ n1_ n2_ n3_ n4_ n5_ n6_ n7_ n8_ n9_ n10_;clear hg hw hp_))
                       go_roundg k2
                       case measure=>have:=HK1.out;have:=HK2.out;omega
                       case rel=>exact ⟨(y317),(y320),(wrap64 (x49_2+1)),xs',H',⟨by have:=HK1.out;have:=HK2.out;omega⟩,⟨by (with_reducible repeat (first|apply ra'|apply rn'|apply rw'));exact Kd.R_mono HO_4.out (fun _ hk=>⟨hk.1.1,⟨hk.2,hk.1.2⟩⟩)⟩,⟨by (with_reducible repeat (first|apply ra'|apply rn'|apply rw'));exact Kd.R_mono HO_5.out (fun _ hk=>⟨hk.1.1,⟨hk.2,hk.1.2⟩⟩)⟩,⟨kr' HO_6.out⟩,⟨by (with_reducible repeat (first|apply ra'|apply rn'|apply rw'));exact Kd.R_mono HO_25.out (fun _ hk=>⟨hk.1.1,⟨hk.1.2,hk.2⟩⟩)⟩,⟨by (with_reducible repeat (first|apply Kd.N_alloc|apply Kd.N_drewN|apply Kd.N_drew));exact Kd.N_mono HO_47.out (fun _ hk=>⟨hk.1.1,⟨hk.1.2.1,⟨hk.2,⟨hk.1.2.2.1,⟨hk.1.2.2.2.1,⟨hk.1.2.2.2.2.2.1,hk.1.2.2.2.2.2.2⟩⟩⟩⟩⟩⟩)⟩,⟨by (with_reducible repeat (first|apply ra'|apply rn'|apply rw'));exact Kd.R_mono HO_306000.out (fun _ hk=>trivial)⟩,⟨kk' BK274.out⟩,⟨kk' BK305.out⟩,⟨y2' GE274.out GE305.out⟩⟩
                      ·
                       rw[if_neg c54] at H;exact absurd H (by simp)
                     ·
                      rw[if_neg c53] at H;have c53b0:((rd x6_2 (rd t288 x27_1)) == 0)=false:=beq_eq_false_iff_ne.mpr c53;have c53b1:((rd x6_2 (rd t288 x27_1)) != 0)=true:=bne_iff_ne.mpr c53;by_cases c69:t314 < (x6_2.length:Int)
                      ·
                       rw[if_pos c69] at H;have c69b0:decide (t314 < (x6_2.length:Int))=true:=dt' c69;clear c69;by_cases c70:(wrap64 ((rd x6_2 t314)+1)) < (rd x6_2 (rd t288 x27_1))
                       ·
                        rw[if_pos c70] at H;have c70b0:decide ((wrap64 ((rd x6_2 t314)+1)) < (rd x6_2 (rd t288 x27_1)))=true:=dt' c70;clear c70;obtain ⟨y324,hy324⟩:∃ y_:List Int,y_=(x6_2.set ((rd t288 x27_1):Int).toNat (wrap64 ((rd x6_2 t314)+1))):=⟨_,rfl⟩
                        replace H:(spec_seCount.l1 k2 t279 y317 y324 (rd t288 x27_1) t288 (t288.length:Int) x27_1 t306 (t306.length:Int) (wrap64 (x49_2+1)) l0_0 a0_1 t301 t304)=some (r1,r2):=by first|(rw[hy324];with_reducible exact H)|(have H2_:=(Option.bind_some _ _).symm.trans H;rw[hy324];with_reducible exact H2_)|(have H2_:=(Option.bind_some _ _).symm.trans H;with_reducible exact H2_)|with_reducible exact H|(rw[hy324];exact H)|exact H
                        have Ny324:=am' hy324;clear hy324;have H':=am' H;clear H;have p309:0≤(x49_2:Int):=od' xa';have q309:x49_2 < (t306.length:Int):=od' xa';obtain ⟨ad309,A309_0,c309_0,e309,hx309_0,hl309_0,hi309_0⟩:=at_L2 (Kd.N_reads' HO_47.out).2.2 x49_2 p309 q309;cases e309;obtain ⟨ce309,hce309,hMe309,hcc309⟩:=Kd.N_get HO_47.out [] x49_2 p309 (by first|exact q309|exact od' xa'|(have e_:=(Kd.N_reads' HO_47.out).1;omega));obtain ⟨ua309_0,uc309_0,rfl,ul309_0,ge309_0⟩:=Kd.FK_slice_open hMe309;have hv309_0:=hcc309 0 _ rfl;rw[Nat.add_zero,show ((Kd.slice 3 (Kd.int .i64))).sz=1 from rfl,Nat.mul_one] at hv309_0;replace hv309_0:=os' (hv309_0.symm.trans hx309_0);injection hv309_0 with hva_ hvn_ hvc_
                        rw[hva_] at ge309_0;rw[hvc_] at ul309_0;have HL309_0:=am' (show Kd.V (Kd.int .i64) 3 _ w.heap.size _ _ (rd_L2 t306 x49_2) from Kd.V_mk ul309_0 ge309_0);clear hva_ hvn_ hvc_ ge309_0 ul309_0;clear hcc309 hce309;have HR309_0:=am' hi309_0;have HC309_0:=am' hl309_0;clear hi309_0 hl309_0;replace p309:=eq_true p309;replace q309:=eq_true q309;have hnb72:=NB305_274.out;have hnc72:=NB274_305.out;have hcz73_0:wr.cell? ⟨gb305,0,none⟩=some (.slice Ao36 t301.length co36):=(bc' BK305.out 0).trans rfl;have hcz73_1:wr.cell? ⟨gb305,1,none⟩=some (.bool t304):=(bc' BK305.out 1).trans rfl;have hfz73_0:=bf' BK305.out 0;have hfz73_1:=bf' BK305.out 1
                        try go_wp2_with (first|((with_reducible refine gate_callee (f:=44) rfl ?_);refine goesL_ (some 55) rfl rfl Try.func44 xk' rfl #[.agg #[.slice Ao36 t301.length co36, .bool t304], .slice A309_0 (rd_L2 t306 x49_2).length c309_0] rfl xl' ?_;(with_reducible refine (spec_paCross.calls k2 _ _ t301 t304 _ _ (rd_L2 t306 x49_2) t310 t313 _ ?side1 ?side2 ?side3 ?side4 A45.out).mono ?_);(case side1=>exact kc' ((Kd.R_reads' HO_306000.out).2.2));(case side2=>exact (Kd.R_reads' HO_306000.out).2.1);(case side3=>exact kc' (kx' HR309_0.out));(case side4=>exact HC309_0.out);rintro e w74 ⟨v311,rfl,ho0,hb⟩;refine ⟨_,rfl,?_⟩;have n0_:=am' (rb' (kr' HO_4.out) hb);have n1_:=am' (rb' (kr' HO_5.out) hb);have n2_:=am' (rb' (kr' HO_6.out) hb);have n3_:=am' (rb' (kr' HO_25.out) hb);have n4_:=am' (Kd.N_elder' (kN' HO_47.out) (Kd.R_base ho0) hb);have n5_:=am' (Kd.R_elder' (kr' HO_306000.out) (Kd.R_base ho0) hb);have n6_:=am' (Kd.V_elder' (kV' HL309_0.out) (Kd.R_base ho0) hb);have n7_:=am' (Kd.R_lower (Kd.R_new' ho0 (Kd.R_lt (kr' HO_306000.out))) (bz' (y2' GE274.out GE305.out)));have n8_:=am' (bb' (g:=gb274) (o := .cells #[.slice A0_0 l0_0.length c0_0, .int .i64 a0_1] 28 (0,0)) (kk' BK274.out) hb);have n9_:=am' (bb' (g:=gb305) (o := .cells #[.slice Ao36 t301.length co36, .bool t304] 54 (0,0)) (kk' BK305.out) hb);have n10_:=am' (cb' (kx' HR309_0.out) hb);have n11_:=am' (bt' (y2' GE274.out GE305.out) hb);clear HO_4;clear HO_5;clear HO_6;clear HO_25;clear HO_47;clear HO_306000;clear HL309_0;clear BK274;clear BK305;clear HR309_0;clear HB;have HO_4:=n0_;have HO_5:=n1_;have HO_6:=n2_;have HO_25:=n3_;have HO_47:=n4_;have HO_306000:=n5_;have HL309_0:=n6_;have HO312:=n7_;have BK274:=n8_;have BK305:=n9_;have HR309_0:=n10_;have HB:=n11_;clear n0_ n1_ n2_ n3_ n4_ n5_ n6_ n7_ n8_ n9_ n10_ n11_;(try clear hb);(try clear hb2);(try clear hk);(try clear hi);(try clear ho0);obtain ⟨Ao75,co75,eo75⟩:=Kd.R_slice HO312.out;subst eo75)|((with_reducible refine gate_callee (f:=40) rfl ?_);refine goesL_ (some 56) rfl rfl Try.func40 xk' rfl #[.agg #[.slice Ao75 t310.length co75, .bool t313]] rfl xl' ?_;(with_reducible refine (spec_seIndex.calls k2 _ _ t310 t313 t314 _ ?side1 ?side2 A46.out).mono ?_);(case side1=>exact kc' ((Kd.R_reads' HO312.out).2.2));(case side2=>exact (Kd.R_reads' HO312.out).2.1);rintro e w76 ⟨rfl,hb⟩;refine ⟨_,rfl,?_⟩;have n0_:=am' (rb' (kr' HO_4.out) hb);have n1_:=am' (rb' (kr' HO_5.out) hb);have n2_:=am' (rb' (kr' HO_6.out) hb);have n3_:=am' (rb' (kr' HO_25.out) hb);have n4_:=am' (Kd.N_below (kN' HO_47.out) hb);have n5_:=am' (rb' (kr' HO_306000.out) hb);have n6_:=am' (Kd.V_below (kV' HL309_0.out) hb);have n7_:=am' (rb' (kr' HO312.out) hb);have n8_:=am' (bb' (g:=gb274) (o := .cells #[.slice A0_0 l0_0.length c0_0, .int .i64 a0_1] 28 (0,0)) (kk' BK274.out) hb);have n9_:=am' (bb' (g:=gb305) (o := .cells #[.slice Ao36 t301.length co36, .bool t304] 54 (0,0)) (kk' BK305.out) hb);have n10_:=am' (cb' (kx' HR309_0.out) hb);have n11_:=am' (bt' (y2' GE274.out GE305.out) hb);clear HO_4;clear HO_5;clear HO_6;clear HO_25;clear HO_47;clear HO_306000;clear HL309_0;clear HO312;clear BK274;clear BK305;clear HR309_0;clear HB;have HO_4:=n0_;have HO_5:=n1_;have HO_6:=n2_;have HO_25:=n3_;have HO_47:=n4_;have HO_306000:=n5_;have HL309_0:=n6_;have HO312:=n7_;have BK274:=n8_;have BK305:=n9_;have HR309_0:=n10_;have HB:=n11_;clear n0_ n1_ n2_ n3_ n4_ n5_ n6_ n7_ n8_ n9_ n10_ n11_;(try clear hb);(try clear hb2);(try clear hk);(try clear hi)))
                        have n0_:=am' (rw' HO_4.out);have n1_:=am' (rw' HO_5.out);have n2_:=am' (rw' HO_6.out);have n3_:=am' (rw' HO_25.out);have n4_:=am' (Kd.N_drew HO_47.out);have n5_:=am' (rw' HO_306000.out);have n6_:=am' (Kd.V_drew HL309_0.out);have n7_:=am' (rw' HO312.out);have n8_:=am' (kd' BK274.out);have n9_:=am' (kd' BK305.out);have n10_:=am' (cd' HR309_0.out);have n11_:=am' (be' HB.out);clear HO_4;clear HO_5;clear HO_6;clear HO_25;clear HO_47;clear HO_306000;clear HL309_0;clear HO312;clear BK274;clear BK305;clear HR309_0;clear HB;have HO_4:=n0_;have HO_5:=n1_;have HO_6:=n2_;have HO_25:=n3_;have HO_47:=n4_;have HO_306000:=n5_;have HL309_0:=n6_;have HO312:=n7_;have BK274:=n8_;have BK305:=n9_;have HR309_0:=n10_;have HB:=n11_;clear n0_ n1_ n2_ n3_ n4_ n5_ n6_ n7_ n8_ n9_ n10_ n11_;obtain ⟨Ao78,co78,eo78⟩:=Kd.R_slice HO_5.out
                        (first|subst eo78|(injection eo78 with f1_ f2_ f3_;have f4_:=f1_.symm;have f5_:=f3_.symm;clear f1_ f2_ f3_;subst f4_;subst f5_))
                        have p315:0≤((rd t288 x27_1):Int):=od' xa';have q315:(rd t288 x27_1) < (x5_2.length:Int):=od' xa';obtain ⟨ad315,e315,hx315_0⟩:=Kd.at_int (Kd.R_reads' HO_5.out).2.2 (rd t288 x27_1) p315 q315;cases e315;replace p315:=eq_true p315;replace q315:=eq_true q315;have p316:0≤(t314:Int):=od' xa';have q316:t314 < (x5_2.length:Int):=od' xa';obtain ⟨ad316,e316,hx316_0⟩:=Kd.at_int (Kd.R_reads' HO_5.out).2.2 t314 p316 q316;obtain rfl:ad315=ad316:=(by injection e316)
                        replace p316:=eq_true p316;replace q316:=eq_true q316;have p51:0≤((rd t288 x27_1):Int):=od' xa';have q51:((rd t288 x27_1):Int) < ((x5_2.length:Int):Int):=od' xa';obtain ⟨go51,co51,eo51,gb51,gl51,cl51,HG51⟩:=Kd.R_form HO_5.out (by omega)
                        (first|cases eo51|(injection eo51 with ea_ en_ ec_;(first|subst ea_|(injection ea_ with ea_;subst ea_));subst ec_;clear en_))
                        have GB51:=am' gb51;have GG51:=am' HG51;clear gb51 gl51 HG51;(first|simp only[add_plain] at hx315_0|skip)
                        (first|simp only[add_plain] at hx316_0|skip)
                        obtain ⟨hx51_0,hf51_0⟩:=Kd.R_celln 0 HO_5.out ((rd t288 x27_1):Int) p51 q51;replace p51:=eq_true p51;replace q51:=eq_true q51;have HP79:=Kd.R_putn HO_5.out ((rd t288 x27_1):Int) (wrap64 ((rd x5_2 (rd t288 x27_1))+(rd x5_2 t314)));rw[← Ny317.out] at HP79;have HQ79:=am' HP79;clear HP79;refine start_ (n:=11) (S:=fun w'=>w'.cell? ⟨go51,((rd t288 x27_1)).toNat,none⟩=some (.int .i64 (rd x5_2 (rd t288 x27_1)))∧w'.cell? ⟨go51,(t314).toNat,none⟩=some (.int .i64 (rd x5_2 t314))) (ds:=[10]) #[false,false,false,false,false,false,false,false,false,false,false] xk' rfl rfl ⟨hx315_0,hx316_0⟩ (fun hHeld=>?_);refine with_tabW spec_seCount.tab13 spec_seCount.bits13 (fun HT_ HW_=>?_);generalize w76.drew=w77 at HO_4 HO_5 HO_6 HO_25 HO_47 HO_306000 HL309_0 HO312 BK274 BK305 HR309_0 HB GG51 HQ79 hf51_0 hx315_0 hx316_0 hx51_0 hHeld ⊢
                        refine pure_ (i:=0) (N:=some 57) (v:=?_) (a':=?_) #[true,false,false,false,false,false,false,false,false,false,false] rfl rfl (any_of HT_.out xk') (fun _ _ _ h=>h) (Or.inl ⟨by rfl,?_⟩) ?_ ?_
                        rotate_left
                        ·
                         intro w';go_simp;with_reducible rfl
                        rotate_left
                        ·
                         simp only[Act.put,sa',sb',sc',i64_w,i32_w];rfl
                        refine pure_ (i:=1) (N:=some 58) (v:=?_) (a':=?_) #[true,true,false,false,false,false,false,false,false,false,false] rfl rfl (any_of HT_.out xk') (fun _ _ _ h=>h) (Or.inl ⟨by rfl,?_⟩) ?_ ?_
                        rotate_left
                        ·
                         intro w';go_simp;with_reducible rfl
                        rotate_left
                        ·
                         simp only[Act.put,sa',sb',sc',i64_w,i32_w];rfl
                        refine pure_ (i:=2) (N:=some 59) (v:=?_) (a':=?_) #[true,true,true,false,false,false,false,false,false,false,false] rfl rfl (any_of HT_.out xk') (fun _ _ _ h=>h) (Or.inl ⟨by rfl,?_⟩) ?_ ?_
                        rotate_left
                        ·
                         intro w';go_simp;with_reducible rfl
                        rotate_left
                        ·
                         simp only[Act.put,sa',sb',sc',i64_w,i32_w];rfl
                        refine pure_ (i:=4) (N:=some 61) (v:=?_) (a':=?_) #[true,true,true,false,true,false,false,false,false,false,false] rfl rfl (any_of HT_.out xk') (fun _ _ _ h=>h) (Or.inl ⟨by rfl,?_⟩) ?_ ?_
                        rotate_left
                        ·
                         intro w';go_simp;with_reducible rfl
                        rotate_left
                        ·
                         simp only[Act.put,sa',sb',sc',i64_w,i32_w];rfl
                        refine pure_ (i:=5) (N:=some 62) (v:=?_) (a':=?_) #[true,true,true,false,true,true,false,false,false,false,false] rfl rfl (any_of HT_.out xk') (fun _ _ _ h=>h) (Or.inl ⟨by rfl,?_⟩) ?_ ?_
                        rotate_left
                        ·
                         intro w';go_simp;with_reducible rfl
                        rotate_left
                        ·
                         simp only[Act.put,sa',sb',sc',i64_w,i32_w];rfl
                        refine pure_ (i:=6) (N:=some 63) (v:=?_) (a':=?_) #[true,true,true,false,true,true,true,false,false,false,false] rfl rfl (any_of HT_.out xk') (fun _ _ _ h=>h) (Or.inl ⟨by rfl,?_⟩) ?_ ?_
                        rotate_left
                        ·
                         intro w';go_simp;with_reducible rfl
                        rotate_left
                        ·
                         simp only[Act.put,sa',sb',sc',i64_w,i32_w];rfl
                        refine take_ (i:=3) (N:=some 60) (v:=?_) (a':=?_) #[true,true,true,true,true,true,true,false,false,false,false] rfl rfl (take_ofW HT_.out HW_.out xk') (fun _ _ _ h=>h) (Or.inl ⟨by rfl,?_⟩) hHeld ?_ ?_
                        rotate_left
                        ·
                         rintro w' ⟨s0,s1⟩
                         go_simp;with_reducible rfl
                        rotate_left
                        ·
                         simp only[Act.put,sa',sb',sc',i64_w,i32_w];rfl
                        refine take_ (i:=7) (N:=some 64) (v:=?_) (a':=?_) #[true,true,true,true,true,true,true,true,false,false,false] rfl rfl (take_ofW HT_.out HW_.out xk') (fun _ _ _ h=>h) (Or.inl ⟨by rfl,?_⟩) hHeld ?_ ?_
                        rotate_left
                        ·
                         rintro w' ⟨s0,s1⟩
                         go_simp;with_reducible rfl
                        rotate_left
                        ·
                         simp only[Act.put,sa',sb',sc',i64_w,i32_w];rfl
                        refine pure_ (i:=8) (N:=some 65) (v:=?_) (a':=?_) #[true,true,true,true,true,true,true,true,true,false,false] rfl rfl (any_of HT_.out xk') (fun _ _ _ h=>h) (Or.inl ⟨by rfl,?_⟩) ?_ ?_
                        rotate_left
                        ·
                         intro w';go_simp;with_reducible rfl
                        rotate_left
                        ·
                         simp only[Act.put,sa',sb',sc',i64_w,i32_w];rfl
                        refine pure_ (i:=9) (N:=some 66) (v:=?_) (a':=?_) #[true,true,true,true,true,true,true,true,true,true,false] rfl rfl (any_of HT_.out xk') (fun _ _ _ h=>h) (Or.inl ⟨by rfl,?_⟩) ?_ ?_
                        rotate_left
                        ·
                         intro w';go_simp;with_reducible rfl
                        rotate_left
                        ·
                         simp only[Act.put,sa',sb',sc',i64_w,i32_w];rfl
                        refine last_ (i:=10) (N:=none) #[true,true,true,true,true,true,true,true,true,true,true] rfl rfl (one_of HT_.out xk') (by decide) (fun K hK=>?_);refine skip_ (w1:=?_) (by rfl) rfl ?_ ?_
                        rotate_left
                        ·
                         go_simp;rfl
                        refine hK.out _ _ ?_
                        clear hK K;refine done_ (done_of HT_.out xk') ?_
                        try go_wp2
                        have n0_:Aside0 (Kd.R (Kd.int .i64) 3 (w77.setCell ⟨go51,((rd t288 x27_1):Int).toNat,none⟩ (.int .i64 (wrap64 ((rd x5_2 (rd t288 x27_1))+(rd x5_2 t314))))) w.heap.size (fun k_=>some k_≠(.slice (some ⟨go51,0,none⟩) x5_2.length co78:Value).ownBlock∧some k_≠(v286:Value).ownBlock∧some k_≠(.slice (some ad298) t288.length co20:Value).ownBlock) (.slice (some ad299) t279.length co13) t279):=⟨by (with_reducible repeat (first|apply ra'|apply rn'|apply rw'));exact Kd.R_mono (Kd.R_far (p:=⟨go51,((rd t288 x27_1):Int).toNat,none⟩) (Kd.R_mono HO_4.out (fun k_ hk=>(⟨hk,fun e_=>hk.1 (by rw[e_];rfl)⟩:_∧k_≠go51))) (fun _ hk=>hk.2) (.int .i64 (wrap64 ((rd x5_2 (rd t288 x27_1))+(rd x5_2 t314))))) (fun _ hk=>⟨hk.1.1,⟨hk.1.2.1,hk.1.2.2⟩⟩)⟩
                        have n1_:Aside0 (Kd.R (Kd.int .i64) 3 (w77.setCell ⟨go51,((rd t288 x27_1):Int).toNat,none⟩ (.int .i64 (wrap64 ((rd x5_2 (rd t288 x27_1))+(rd x5_2 t314))))) w.heap.size (fun k_=>some k_≠(.slice (some ad299) t279.length co13:Value).ownBlock∧some k_≠(v286:Value).ownBlock∧some k_≠(.slice (some ad298) t288.length co20:Value).ownBlock) (.slice (some ⟨go51,0,none⟩) x5_2.length co78) y317):=⟨kr' HQ79.out⟩
                        have n2_:Aside0 (Kd.R (Kd.int .i64) 3 (w77.setCell ⟨go51,((rd t288 x27_1):Int).toNat,none⟩ (.int .i64 (wrap64 ((rd x5_2 (rd t288 x27_1))+(rd x5_2 t314))))) w.heap.size (fun k_=>some k_≠(.slice (some ad299) t279.length co13:Value).ownBlock∧some k_≠(.slice (some ⟨go51,0,none⟩) x5_2.length co78:Value).ownBlock∧some k_≠(.slice (some ad298) t288.length co20:Value).ownBlock) v286 x6_2):=⟨by (with_reducible repeat (first|apply ra'|apply rn'|apply rw'));exact Kd.R_mono (Kd.R_far (p:=⟨go51,((rd t288 x27_1):Int).toNat,none⟩) (Kd.R_mono HO_6.out (fun k_ hk=>(⟨hk,fun e_=>hk.2.1 (by rw[e_];rfl)⟩:_∧k_≠go51))) (fun _ hk=>hk.2) (.int .i64 (wrap64 ((rd x5_2 (rd t288 x27_1))+(rd x5_2 t314))))) (fun _ hk=>⟨hk.1.1,⟨hk.1.2.1,hk.1.2.2⟩⟩)⟩
                        have n3_:Aside0 (Kd.R (Kd.int .i64) 3 (w77.setCell ⟨go51,((rd t288 x27_1):Int).toNat,none⟩ (.int .i64 (wrap64 ((rd x5_2 (rd t288 x27_1))+(rd x5_2 t314))))) w.heap.size (fun k_=>some k_≠(.slice (some ad299) t279.length co13:Value).ownBlock∧some k_≠(.slice (some ⟨go51,0,none⟩) x5_2.length co78:Value).ownBlock∧some k_≠(v286:Value).ownBlock) (.slice (some ad298) t288.length co20) t288):=⟨by (with_reducible repeat (first|apply ra'|apply rn'|apply rw'));exact Kd.R_mono (Kd.R_far (p:=⟨go51,((rd t288 x27_1):Int).toNat,none⟩) (Kd.R_mono HO_25.out (fun k_ hk=>(⟨hk,fun e_=>hk.2.1 (by rw[e_];rfl)⟩:_∧k_≠go51))) (fun _ hk=>hk.2) (.int .i64 (wrap64 ((rd x5_2 (rd t288 x27_1))+(rd x5_2 t314))))) (fun _ hk=>⟨hk.1.1,⟨hk.1.2.1,hk.1.2.2⟩⟩)⟩
                        have n4_:Aside0 (Kd.N (Kd.slice 3 (Kd.int .i64)) 22 (w77.setCell ⟨go51,((rd t288 x27_1):Int).toNat,none⟩ (.int .i64 (wrap64 ((rd x5_2 (rd t288 x27_1))+(rd x5_2 t314))))) w.heap.size (fun k_=>some k_≠(.slice (some ad299) t279.length co13:Value).ownBlock∧some k_≠(.slice (some ⟨go51,0,none⟩) x5_2.length co78:Value).ownBlock∧some k_≠(v286:Value).ownBlock∧some k_≠(.slice (some ad298) t288.length co20:Value).ownBlock∧some k_≠(.slice Ao36 t301.length co36:Value).ownBlock∧some k_≠(.slice Ao75 t310.length co75:Value).ownBlock∧k_≠gb274∧k_≠gb305) (.slice (some ad309) t306.length co41) t306):=⟨by (with_reducible repeat (first|apply Kd.N_alloc|apply Kd.N_drewN|apply Kd.N_drew));exact Kd.N_mono (Kd.N_far (p:=⟨go51,((rd t288 x27_1):Int).toNat,none⟩) (Kd.N_mono HO_47.out (fun k_ hk=>(⟨hk,fun e_=>hk.1.2.1 (by rw[e_];rfl)⟩:_∧k_≠go51))) (fun _ hk=>hk.2) (.int .i64 (wrap64 ((rd x5_2 (rd t288 x27_1))+(rd x5_2 t314))))) (fun _ hk=>⟨hk.1.1.1,⟨hk.1.1.2.1,⟨hk.1.1.2.2.1,⟨hk.1.1.2.2.2.1,⟨hk.1.1.2.2.2.2.1,⟨hk.1.2,⟨hk.1.1.2.2.2.2.2.1,hk.1.1.2.2.2.2.2.2⟩⟩⟩⟩⟩⟩⟩)⟩
                        have n5_:Aside0 (Kd.R Kd.bool 4 (w77.setCell ⟨go51,((rd t288 x27_1):Int).toNat,none⟩ (.int .i64 (wrap64 ((rd x5_2 (rd t288 x27_1))+(rd x5_2 t314))))) w.heap.size (fun k_=>some k_≠(.slice Ao75 t310.length co75:Value).ownBlock) (.slice Ao36 t301.length co36) t301):=⟨by (with_reducible repeat (first|apply ra'|apply rn'|apply rw'));exact Kd.R_mono (Kd.R_far (p:=⟨go51,((rd t288 x27_1):Int).toNat,none⟩) (Kd.R_types HO_306000.out GG51.out (by decide)) (fun _ hk=>hk.2) (.int .i64 (wrap64 ((rd x5_2 (rd t288 x27_1))+(rd x5_2 t314))))) (fun _ hk=>hk.1.2)⟩
                        have n6_:Aside0 (Kd.V (Kd.int .i64) 3 (w77.setCell ⟨go51,((rd t288 x27_1):Int).toNat,none⟩ (.int .i64 (wrap64 ((rd x5_2 (rd t288 x27_1))+(rd x5_2 t314))))) w.heap.size (fun k_=>some k_≠(.slice (some ad299) t279.length co13:Value).ownBlock∧some k_≠(.slice (some ⟨go51,0,none⟩) x5_2.length co78:Value).ownBlock∧some k_≠(v286:Value).ownBlock∧some k_≠(.slice (some ad298) t288.length co20:Value).ownBlock∧some k_≠(.slice (some ad309) t306.length co41:Value).ownBlock∧some k_≠(.slice Ao36 t301.length co36:Value).ownBlock∧some k_≠(.slice Ao75 t310.length co75:Value).ownBlock∧k_≠gb274∧k_≠gb305) (.slice A309_0 (rd_L2 t306 x49_2).length c309_0) (rd_L2 t306 x49_2)):=⟨by (with_reducible repeat (first|apply Kd.V_alloc|apply Kd.V_drewN|apply Kd.V_drew));exact Kd.V_mono (Kd.V_far (p:=⟨go51,((rd t288 x27_1):Int).toNat,none⟩) (Kd.V_mono HL309_0.out (fun k_ hk=>(⟨hk,fun e_=>hk.1.1.2.1 (by rw[e_];rfl)⟩:_∧k_≠go51))) (fun _ hk=>hk.2) (.int .i64 (wrap64 ((rd x5_2 (rd t288 x27_1))+(rd x5_2 t314))))) (fun _ hk=>⟨hk.1.1.1.1,⟨hk.1.1.1.2.1,⟨hk.1.1.1.2.2.1,⟨hk.1.1.1.2.2.2.1,⟨hk.1.1.2,⟨hk.1.1.1.2.2.2.2.1,⟨hk.1.2,⟨hk.1.1.1.2.2.2.2.2.1,hk.1.1.1.2.2.2.2.2.2⟩⟩⟩⟩⟩⟩⟩⟩)⟩
                        have n7_:Aside0 (Kd.R Kd.bool 4 (w77.setCell ⟨go51,((rd t288 x27_1):Int).toNat,none⟩ (.int .i64 (wrap64 ((rd x5_2 (rd t288 x27_1))+(rd x5_2 t314))))) w.heap.size (fun k_=>some k_≠(.slice Ao36 t301.length co36:Value).ownBlock) (.slice Ao75 t310.length co75) t310):=⟨by (with_reducible repeat (first|apply ra'|apply rn'|apply rw'));exact Kd.R_mono (Kd.R_far (p:=⟨go51,((rd t288 x27_1):Int).toNat,none⟩) (Kd.R_types HO312.out GG51.out (by decide)) (fun _ hk=>hk.2) (.int .i64 (wrap64 ((rd x5_2 (rd t288 x27_1))+(rd x5_2 t314))))) (fun _ hk=>hk.1.2)⟩
                        have n8_:Aside0 ((w77.setCell ⟨go51,((rd t288 x27_1):Int).toNat,none⟩ (.int .i64 (wrap64 ((rd x5_2 (rd t288 x27_1))+(rd x5_2 t314))))).heap[gb274]? = some (.cells #[.slice A0_0 l0_0.length c0_0, .int .i64 a0_1] 28 (0,0))):=⟨by (with_reducible repeat (first|refine kn' ?_ _|refine kd' ?_|refine ka' ?_ _));refine blk_far ?_ (by have h_:=Kd.R_ne HO_5.out BK274.out (by decide);intro e_;exact h_ (by rw[e_];rfl)) _;(with_reducible repeat (first|refine kn' ?_ _|refine kd' ?_|refine ka' ?_ _));exact BK274.out⟩
                        have n9_:Aside0 ((w77.setCell ⟨go51,((rd t288 x27_1):Int).toNat,none⟩ (.int .i64 (wrap64 ((rd x5_2 (rd t288 x27_1))+(rd x5_2 t314))))).heap[gb305]? = some (.cells #[.slice Ao36 t301.length co36, .bool t304] 54 (0,0))):=⟨by (with_reducible repeat (first|refine kn' ?_ _|refine kd' ?_|refine ka' ?_ _));refine blk_far ?_ (by have h_:=Kd.R_ne HO_5.out BK305.out (by decide);intro e_;exact h_ (by rw[e_];rfl)) _;(with_reducible repeat (first|refine kn' ?_ _|refine kd' ?_|refine ka' ?_ _));exact BK305.out⟩
                        have n10_:Aside0 (Below w.heap.size w (w77.setCell ⟨go51,((rd t288 x27_1):Int).toNat,none⟩ (.int .i64 (wrap64 ((rd x5_2 (rd t288 x27_1))+(rd x5_2 t314)))))):=⟨y3' GB51.out GE274.out GE305.out⟩
                        (try clear HO_4)
                        (try clear HO_5)
                        (try clear HO_6)
                        (try clear HO_25)
                        (try clear HO_47)
                        (try clear HO_306000)
                        (try clear HL309_0)
                        (try clear HO312)
                        (try clear BK274)
                        (try clear BK305)
                        (try clear HB)
                        generalize (w77.setCell ⟨go51,((rd t288 x27_1):Int).toNat,none⟩ (.int .i64 (wrap64 ((rd x5_2 (rd t288 x27_1))+(rd x5_2 t314)))))=w80 at n0_ n1_ n2_ n3_ n4_ n5_ n6_ n7_ n8_ n9_ n10_ ⊢
                        have HO_4:=n0_;have HO_5:=n1_;have HO_6:=n2_;have HO_25:=n3_;have HO_47:=n4_;have HO_306000:=n5_;have HL309_0:=n6_;have HO312:=n7_;have BK274:=n8_;have BK305:=n9_;have HB:=n10_;clear n0_ n1_ n2_ n3_ n4_ n5_ n6_ n7_ n8_ n9_ n10_;have n0_:=am' (rw' HO_4.out);have n1_:=am' (rw' HO_5.out);have n2_:=am' (rw' HO_6.out);have n3_:=am' (rw' HO_25.out);have n4_:=am' (Kd.N_drew HO_47.out);have n5_:=am' (rw' HO_306000.out);have n6_:=am' (Kd.V_drew HL309_0.out);have n7_:=am' (rw' HO312.out);have n8_:=am' (kd' BK274.out);have n9_:=am' (kd' BK305.out);have n10_:=am' (be' HB.out);clear HO_4;clear HO_5;clear HO_6;clear HO_25;clear HO_47;clear HO_306000;clear HL309_0;clear HO312;clear BK274;clear BK305;clear HB;have HO_4:=n0_;have HO_5:=n1_;have HO_6:=n2_;have HO_25:=n3_;have HO_47:=n4_;have HO_306000:=n5_;have HL309_0:=n6_;have HO312:=n7_;have BK274:=n8_;have BK305:=n9_;have HB:=n10_;clear n0_ n1_ n2_ n3_ n4_ n5_ n6_ n7_ n8_ n9_ n10_;obtain ⟨Ao82,co82,eo82⟩:=Kd.R_slice HO_6.out
                        (first|subst eo82|(injection eo82 with f1_ f2_ f3_;have f4_:=f1_.symm;have f5_:=f3_.symm;clear f1_ f2_ f3_;subst f4_;subst f5_))
                        have p318:0≤((rd t288 x27_1):Int):=od' xa';have q318:(rd t288 x27_1) < (x6_2.length:Int):=od' xa';obtain ⟨ad318,e318,hx318_0⟩:=Kd.at_int (Kd.R_reads' HO_6.out).2.2 (rd t288 x27_1) p318 q318;cases e318;replace p318:=eq_true p318;replace q318:=eq_true q318;have p321:0≤(t314:Int):=od' xa';have q321:t314 < (x6_2.length:Int):=od' xa';obtain ⟨ad321,e321,hx321_0⟩:=Kd.at_int (Kd.R_reads' HO_6.out).2.2 t314 p321 q321;obtain rfl:ad318=ad321:=(by injection e321)
                        replace p321:=eq_true p321;replace q321:=eq_true q321;have p322:0≤((rd t288 x27_1):Int):=od' xa';have q322:(rd t288 x27_1) < (x6_2.length:Int):=od' xa';obtain ⟨ad322,e322,hx322_0⟩:=Kd.at_int (Kd.R_reads' HO_6.out).2.2 (rd t288 x27_1) p322 q322;obtain rfl:ad318=ad322:=(by injection e322)
                        replace p322:=eq_true p322;replace q322:=eq_true q322;refine start_ (n:=17) (S:=fun w'=>w'.cell? (ad318.add ((rd t288 x27_1)).toNat)=some (.int .i64 (rd x6_2 (rd t288 x27_1)))∧w'.cell? (ad318.add (t314).toNat)=some (.int .i64 (rd x6_2 t314))∧w'.cell? (ad318.add ((rd t288 x27_1)).toNat)=some (.int .i64 (rd x6_2 (rd t288 x27_1)))) (ds:=[]) #[false,false,false,false,false,false,false,false,false,false,false,false,false,false,false,false,false] xk' rfl rfl ⟨hx318_0,hx321_0,hx322_0⟩ (fun hHeld=>?_);refine with_tabW spec_seCount.tab14 spec_seCount.bits14 (fun HT_ HW_=>?_);generalize w80.drew=w81 at HO_4 HO_5 HO_6 HO_25 HO_47 HO_306000 HL309_0 HO312 BK274 BK305 HB HQ79 hx318_0 hx321_0 hx322_0 hHeld ⊢
                        refine pure_ (i:=0) (N:=some 67) (v:=?_) (a':=?_) #[true,false,false,false,false,false,false,false,false,false,false,false,false,false,false,false,false] rfl rfl (any_of HT_.out xk') (fun _ _ _ h=>h) (Or.inl ⟨by rfl,?_⟩) ?_ ?_
                        rotate_left
                        ·
                         intro w';go_simp;with_reducible rfl
                        rotate_left
                        ·
                         simp only[Act.put,sa',sb',sc',i64_w,i32_w];rfl
                        refine pure_ (i:=1) (N:=some 68) (v:=?_) (a':=?_) #[true,true,false,false,false,false,false,false,false,false,false,false,false,false,false,false,false] rfl rfl (any_of HT_.out xk') (fun _ _ _ h=>h) (Or.inl ⟨by rfl,?_⟩) ?_ ?_
                        rotate_left
                        ·
                         intro w';go_simp;with_reducible rfl
                        rotate_left
                        ·
                         simp only[Act.put,sa',sb',sc',i64_w,i32_w];rfl
                        refine pure_ (i:=2) (N:=some 69) (v:=?_) (a':=?_) #[true,true,true,false,false,false,false,false,false,false,false,false,false,false,false,false,false] rfl rfl (any_of HT_.out xk') (fun _ _ _ h=>h) (Or.inl ⟨by rfl,?_⟩) ?_ ?_
                        rotate_left
                        ·
                         intro w';go_simp;with_reducible rfl
                        rotate_left
                        ·
                         simp only[Act.put,sa',sb',sc',i64_w,i32_w];rfl
                        refine take_ (i:=3) (N:=some 70) (v:=?_) (a':=?_) #[true,true,true,true,false,false,false,false,false,false,false,false,false,false,false,false,false] rfl rfl (take_ofW HT_.out HW_.out xk') (fun _ _ _ h=>h) (Or.inl ⟨by rfl,?_⟩) hHeld ?_ ?_
                        rotate_left
                        ·
                         rintro w' ⟨s0,s1,s2⟩
                         go_simp;with_reducible rfl
                        rotate_left
                        ·
                         simp only[Act.put,sa',sb',sc',i64_w,i32_w];rfl
                        refine pure_ (i:=4) (N:=some 71) (v:=?_) (a':=?_) #[true,true,true,true,true,false,false,false,false,false,false,false,false,false,false,false,false] rfl rfl (any_of HT_.out xk') (fun _ _ _ h=>h) (Or.inl ⟨by rfl,?_⟩) ?_ ?_
                        rotate_left
                        ·
                         intro w';go_simp;with_reducible rfl
                        rotate_left
                        ·
                         simp only[Act.put,sa',sb',sc',i64_w,i32_w];rfl
                        refine pure_ (i:=5) (N:=some 72) (v:=?_) (a':=?_) #[true,true,true,true,true,true,false,false,false,false,false,false,false,false,false,false,false] rfl rfl (any_of HT_.out xk') (fun _ _ _ h=>h) (Or.inl ⟨by rfl,?_⟩) ?_ ?_
                        rotate_left
                        ·
                         intro w';go_simp;with_reducible rfl
                        rotate_left
                        ·
                         simp only[Act.put,sa',sb',sc',i64_w,i32_w];rfl
                        refine pure_ (i:=6) (N:=some 73) (v:=?_) (a':=?_) #[true,true,true,true,true,true,true,false,false,false,false,false,false,false,false,false,false] rfl rfl (any_of HT_.out xk') (fun _ _ _ h=>h) (Or.inl ⟨by rfl,?_⟩) ?_ ?_
                        rotate_left
                        ·
                         intro w';go_simp;with_reducible rfl
                        rotate_left
                        ·
                         simp only[Act.put,sa',sb',sc',i64_w,i32_w];rfl
                        refine pure_ (i:=7) (N:=some 74) (v:=?_) (a':=?_) #[true,true,true,true,true,true,true,true,false,false,false,false,false,false,false,false,false] rfl rfl (any_of HT_.out xk') (fun _ _ _ h=>h) (Or.inl ⟨by rfl,?_⟩) ?_ ?_
                        rotate_left
                        ·
                         intro w';go_simp;with_reducible rfl
                        rotate_left
                        ·
                         simp only[Act.put,sa',sb',sc',i64_w,i32_w];rfl
                        refine pure_ (i:=8) (N:=some 75) (v:=?_) (a':=?_) #[true,true,true,true,true,true,true,true,true,false,false,false,false,false,false,false,false] rfl rfl (any_of HT_.out xk') (fun _ _ _ h=>h) (Or.inl ⟨by rfl,?_⟩) ?_ ?_
                        rotate_left
                        ·
                         intro w';go_simp;with_reducible rfl
                        rotate_left
                        ·
                         simp only[Act.put,sa',sb',sc',i64_w,i32_w];rfl
                        refine pure_ (i:=11) (N:=some 78) (v:=?_) (a':=?_) #[true,true,true,true,true,true,true,true,true,false,false,true,false,false,false,false,false] rfl rfl (any_of HT_.out xk') (fun _ _ _ h=>h) (Or.inl ⟨by rfl,?_⟩) ?_ ?_
                        rotate_left
                        ·
                         intro w';go_simp;with_reducible rfl
                        rotate_left
                        ·
                         simp only[Act.put,sa',sb',sc',i64_w,i32_w];rfl
                        refine pure_ (i:=12) (N:=some 79) (v:=?_) (a':=?_) #[true,true,true,true,true,true,true,true,true,false,false,true,true,false,false,false,false] rfl rfl (any_of HT_.out xk') (fun _ _ _ h=>h) (Or.inl ⟨by rfl,?_⟩) ?_ ?_
                        rotate_left
                        ·
                         intro w';go_simp;with_reducible rfl
                        rotate_left
                        ·
                         simp only[Act.put,sa',sb',sc',i64_w,i32_w];rfl
                        refine pure_ (i:=13) (N:=some 80) (v:=?_) (a':=?_) #[true,true,true,true,true,true,true,true,true,false,false,true,true,true,false,false,false] rfl rfl (any_of HT_.out xk') (fun _ _ _ h=>h) (Or.inl ⟨by rfl,?_⟩) ?_ ?_
                        rotate_left
                        ·
                         intro w';go_simp;with_reducible rfl
                        rotate_left
                        ·
                         simp only[Act.put,sa',sb',sc',i64_w,i32_w];rfl
                        refine take_ (i:=9) (N:=some 76) (v:=?_) (a':=?_) #[true,true,true,true,true,true,true,true,true,true,false,true,true,true,false,false,false] rfl rfl (take_ofW HT_.out HW_.out xk') (fun _ _ _ h=>h) (Or.inl ⟨by rfl,?_⟩) hHeld ?_ ?_
                        rotate_left
                        ·
                         rintro w' ⟨s0,s1,s2⟩
                         go_simp;with_reducible rfl
                        rotate_left
                        ·
                         simp only[Act.put,sa',sb',sc',i64_w,i32_w];rfl
                        refine pure_ (i:=10) (N:=some 77) (v:=?_) (a':=?_) #[true,true,true,true,true,true,true,true,true,true,true,true,true,true,false,false,false] rfl rfl (any_of HT_.out xk') (fun _ _ _ h=>h) (Or.inl ⟨by rfl,?_⟩) ?_ ?_
                        rotate_left
                        ·
                         intro w';go_simp;with_reducible rfl
                        rotate_left
                        ·
                         simp only[Act.put,sa',sb',sc',i64_w,i32_w];rfl
                        refine take_ (i:=14) (N:=some 81) (v:=?_) (a':=?_) #[true,true,true,true,true,true,true,true,true,true,true,true,true,true,true,false,false] rfl rfl (take_ofW HT_.out HW_.out xk') (fun _ _ _ h=>h) (Or.inl ⟨by rfl,?_⟩) hHeld ?_ ?_
                        rotate_left
                        ·
                         rintro w' ⟨s0,s1,s2⟩
                         go_simp;with_reducible rfl
                        rotate_left
                        ·
                         simp only[Act.put,sa',sb',sc',i64_w,i32_w];rfl
                        refine pure_ (i:=15) (N:=some 82) (v:=?_) (a':=?_) #[true,true,true,true,true,true,true,true,true,true,true,true,true,true,true,true,false] rfl rfl (any_of HT_.out xk') (fun _ _ _ h=>h) (Or.inl ⟨by rfl,?_⟩) ?_ ?_
                        rotate_left
                        ·
                         intro w';go_simp;with_reducible rfl
                        rotate_left
                        ·
                         simp only[Act.put,sa',sb',sc',i64_w,i32_w];rfl
                        refine pure_ (i:=16) (N:=some 83) (v:=?_) (a':=?_) #[true,true,true,true,true,true,true,true,true,true,true,true,true,true,true,true,true] rfl rfl (any_of HT_.out xk') (fun _ _ _ h=>h) (Or.inl ⟨by rfl,?_⟩) ?_ ?_
                        rotate_left
                        ·
                         intro w';go_simp;with_reducible rfl
                        rotate_left
                        ·
                         simp only[Act.put,sa',sb',sc',i64_w,i32_w];rfl
                        refine done_ (done_of HT_.out xk') ?_
                        have p323:0≤(t314:Int):=od' xa';have q323:t314 < (x6_2.length:Int):=od' xa';obtain ⟨ad323,e323,hx323_0⟩:=Kd.at_int (Kd.R_reads' HO_6.out).2.2 t314 p323 q323;obtain rfl:ad318=ad323:=(by injection e323)
                        replace p323:=eq_true p323;replace q323:=eq_true q323;have p71:0≤((rd t288 x27_1):Int):=od' xa';have q71:((rd t288 x27_1):Int) < ((x6_2.length:Int):Int):=od' xa';obtain ⟨go71,co71,eo71,gb71,gl71,cl71,HG71⟩:=Kd.R_form HO_6.out (by omega)
                        (first|cases eo71|(injection eo71 with ea_ en_ ec_;(first|subst ea_|(injection ea_ with ea_;subst ea_));subst ec_;clear en_))
                        have GB71:=am' gb71;have GG71:=am' HG71;clear gb71 gl71 HG71;(first|simp only[add_plain] at hx318_0|skip)
                        (first|simp only[add_plain] at hx321_0|skip)
                        (first|simp only[add_plain] at hx322_0|skip)
                        (first|simp only[add_plain] at hx323_0|skip)
                        obtain ⟨hx71_0,hf71_0⟩:=Kd.R_celln 0 HO_6.out ((rd t288 x27_1):Int) p71 q71;replace p71:=eq_true p71;replace q71:=eq_true q71;obtain ⟨hy83_,hz83_⟩:=Kd.R_celln 0 HO_6.out ((rd t288 x27_1):Int) (od' xa') (od' xa');have HP83:=Kd.R_putg HO_6.out ((rd t288 x27_1):Int) (wrap64 ((rd x6_2 t314)+1))
                        try go_wp2_with (first|((with_reducible refine gate_store (t:=3) (p:=91) rfl ?_);refine store_event (t:=3) (p:=91) (v:=?vo_w84) (w1:=(w81.setCell ⟨go71,((rd t288 x27_1):Int).toNat,none⟩ (.int .i64 (wrap64 ((rd x6_2 t314)+1))))) ?hg ?ho ?hn ?hr ?_;(case ho=>rfl);(case hg=>rfl);(case hn=>rfl);(case hr=>first|(go_simp;done)|(go_simp;rfl));intro w84 hw;have hg:w81.grownBy w84 (some go71):=(by rw[hw];exact HP83.2);have hp_:Kd.R (Kd.int .i64) 3 w84 w.heap.size (fun k_=>some k_≠(.slice (some ad299) t279.length co13:Value).ownBlock∧some k_≠(.slice (some ⟨go51,0,none⟩) x5_2.length co78:Value).ownBlock∧some k_≠(.slice (some ad298) t288.length co20:Value).ownBlock) (.slice (some ⟨go71,0,none⟩) x6_2.length co82) y324:=(by rw[hw,Ny324.out];exact HP83.1);clear HP83;have n0_:=am' (Kd.R_after (v:=(.slice (some ⟨go71,0,none⟩) x6_2.length co82)) (v1:=(.slice (some ⟨go71,0,none⟩) x6_2.length co82)) (ok:=(fun k_=>some k_≠(.slice (some ⟨go51,0,none⟩) x5_2.length co78:Value).ownBlock∧some k_≠(.slice (some ad298) t288.length co20:Value).ownBlock)) (by (with_reducible repeat (first|apply ra'|apply rn'|apply rw'));exact Kd.R_mono HO_4.out (fun _ hk=>⟨⟨hk.1,hk.2.2⟩,hk.2.1⟩)) hg (.inl rfl));have n1_:=am' (Kd.R_after (v:=(.slice (some ⟨go71,0,none⟩) x6_2.length co82)) (v1:=(.slice (some ⟨go71,0,none⟩) x6_2.length co82)) (ok:=(fun k_=>some k_≠(.slice (some ad299) t279.length co13:Value).ownBlock∧some k_≠(.slice (some ad298) t288.length co20:Value).ownBlock)) (by (with_reducible repeat (first|apply ra'|apply rn'|apply rw'));exact Kd.R_mono HO_5.out (fun _ hk=>⟨⟨hk.1,hk.2.2⟩,hk.2.1⟩)) hg (.inl rfl));have n2_:=am' (hp_);have n3_:=am' (Kd.R_after (v:=(.slice (some ⟨go71,0,none⟩) x6_2.length co82)) (v1:=(.slice (some ⟨go71,0,none⟩) x6_2.length co82)) (ok:=(fun k_=>some k_≠(.slice (some ad299) t279.length co13:Value).ownBlock∧some k_≠(.slice (some ⟨go51,0,none⟩) x5_2.length co78:Value).ownBlock)) (by (with_reducible repeat (first|apply ra'|apply rn'|apply rw'));exact Kd.R_mono HO_25.out (fun _ hk=>⟨⟨hk.1,hk.2.1⟩,hk.2.2⟩)) hg (.inl rfl));have n4_:=am' (Kd.N_afterv (v:=(.slice (some ⟨go71,0,none⟩) x6_2.length co82)) (v1:=(.slice (some ⟨go71,0,none⟩) x6_2.length co82)) (ok:=(fun k_=>some k_≠(.slice (some ad299) t279.length co13:Value).ownBlock∧some k_≠(.slice (some ⟨go51,0,none⟩) x5_2.length co78:Value).ownBlock∧some k_≠(.slice (some ad298) t288.length co20:Value).ownBlock∧some k_≠(.slice Ao36 t301.length co36:Value).ownBlock∧some k_≠(.slice Ao75 t310.length co75:Value).ownBlock∧k_≠gb274∧k_≠gb305)) (by (with_reducible repeat (first|apply Kd.N_alloc|apply Kd.N_drewN|apply Kd.N_drew));exact Kd.N_mono HO_47.out (fun _ hk=>⟨⟨hk.1,⟨hk.2.1,⟨hk.2.2.2.1,⟨hk.2.2.2.2.1,⟨hk.2.2.2.2.2.1,⟨hk.2.2.2.2.2.2.1,hk.2.2.2.2.2.2.2⟩⟩⟩⟩⟩⟩,hk.2.2.1⟩)) hg (.inl rfl));have n5_:=am' (Kd.R_over' (v:=(.slice (some ⟨go71,0,none⟩) x6_2.length co82)) (kr' HO_306000.out) (Kd.R_typed HO_6.out) (by decide) hg);have n6_:=am' (blk_grown (g:=gb274) (o := .cells #[.slice A0_0 l0_0.length c0_0, .int .i64 a0_1] 28 (0,0)) (kk' BK274.out) hg (Kd.R_ne HO_6.out BK274.out (by decide)));have n7_:=am' (blk_grown (g:=gb305) (o := .cells #[.slice Ao36 t301.length co36, .bool t304] 54 (0,0)) (kk' BK305.out) hg (Kd.R_ne HO_6.out BK305.out (by decide)));have n8_:=am' (Kd.V_afterv (v:=(.slice (some ⟨go71,0,none⟩) x6_2.length co82)) (v1:=(.slice (some ⟨go71,0,none⟩) x6_2.length co82)) (ok:=(fun k_=>some k_≠(.slice (some ad299) t279.length co13:Value).ownBlock∧some k_≠(.slice (some ⟨go51,0,none⟩) x5_2.length co78:Value).ownBlock∧some k_≠(.slice (some ad298) t288.length co20:Value).ownBlock∧some k_≠(.slice (some ad309) t306.length co41:Value).ownBlock∧some k_≠(.slice Ao36 t301.length co36:Value).ownBlock∧some k_≠(.slice Ao75 t310.length co75:Value).ownBlock∧k_≠gb274∧k_≠gb305)) (by (with_reducible repeat (first|apply Kd.V_alloc|apply Kd.V_drewN|apply Kd.V_drew));exact Kd.V_mono HL309_0.out (fun _ hk=>⟨⟨hk.1,⟨hk.2.1,⟨hk.2.2.2.1,⟨hk.2.2.2.2.1,⟨hk.2.2.2.2.2.1,⟨hk.2.2.2.2.2.2.1,⟨hk.2.2.2.2.2.2.2.1,hk.2.2.2.2.2.2.2.2⟩⟩⟩⟩⟩⟩⟩,hk.2.2.1⟩)) hg (.inl rfl));have n9_:=am' (Kd.R_over' (v:=(.slice (some ⟨go71,0,none⟩) x6_2.length co82)) (kr' HO312.out) (Kd.R_typed HO_6.out) (by decide) hg);have n10_:=am' ((by rw[hw];exact bs' (HB.out) GB71.out:Below w.heap.size w w84));clear HO_4;clear HO_5;clear HO_6;clear HO_25;clear HO_47;clear HO_306000;clear BK274;clear BK305;clear HL309_0;clear HO312;clear HB;have HO_4:=n0_;have HO_5:=n1_;have HO_6:=n2_;have HO_25:=n3_;have HO_47:=n4_;have HO_306000:=n5_;have BK274:=n6_;have BK305:=n7_;have HL309_0:=n8_;have HO312:=n9_;have HB:=n10_;clear n0_ n1_ n2_ n3_ n4_ n5_ n6_ n7_ n8_ n9_ n10_;clear hg hw hp_))
                        go_roundg k2
                        case measure=>have:=HK1.out;have:=HK2.out;omega
                        case rel=>exact ⟨(y317),(y324),(wrap64 (x49_2+1)),xs',H',⟨by have:=HK1.out;have:=HK2.out;omega⟩,⟨by (with_reducible repeat (first|apply ra'|apply rn'|apply rw'));exact Kd.R_mono HO_4.out (fun _ hk=>⟨hk.1.1,⟨hk.2,hk.1.2⟩⟩)⟩,⟨by (with_reducible repeat (first|apply ra'|apply rn'|apply rw'));exact Kd.R_mono HO_5.out (fun _ hk=>⟨hk.1.1,⟨hk.2,hk.1.2⟩⟩)⟩,⟨kr' HO_6.out⟩,⟨by (with_reducible repeat (first|apply ra'|apply rn'|apply rw'));exact Kd.R_mono HO_25.out (fun _ hk=>⟨hk.1.1,⟨hk.1.2,hk.2⟩⟩)⟩,⟨by (with_reducible repeat (first|apply Kd.N_alloc|apply Kd.N_drewN|apply Kd.N_drew));exact Kd.N_mono HO_47.out (fun _ hk=>⟨hk.1.1,⟨hk.1.2.1,⟨hk.2,⟨hk.1.2.2.1,⟨hk.1.2.2.2.1,⟨hk.1.2.2.2.2.2.1,hk.1.2.2.2.2.2.2⟩⟩⟩⟩⟩⟩)⟩,⟨by (with_reducible repeat (first|apply ra'|apply rn'|apply rw'));exact Kd.R_mono HO_306000.out (fun _ hk=>trivial)⟩,⟨kk' BK274.out⟩,⟨kk' BK305.out⟩,⟨y2' GE274.out GE305.out⟩⟩
                       ·
                        rw[if_neg c70] at H;have c70b0:decide ((wrap64 ((rd x6_2 t314)+1)) < (rd x6_2 (rd t288 x27_1)))=false:=df' c70;clear c70;have H':=am' H;clear H;have p309:0≤(x49_2:Int):=od' xa';have q309:x49_2 < (t306.length:Int):=od' xa';obtain ⟨ad309,A309_0,c309_0,e309,hx309_0,hl309_0,hi309_0⟩:=at_L2 (Kd.N_reads' HO_47.out).2.2 x49_2 p309 q309;cases e309;obtain ⟨ce309,hce309,hMe309,hcc309⟩:=Kd.N_get HO_47.out [] x49_2 p309 (by first|exact q309|exact od' xa'|(have e_:=(Kd.N_reads' HO_47.out).1;omega));obtain ⟨ua309_0,uc309_0,rfl,ul309_0,ge309_0⟩:=Kd.FK_slice_open hMe309;have hv309_0:=hcc309 0 _ rfl;rw[Nat.add_zero,show ((Kd.slice 3 (Kd.int .i64))).sz=1 from rfl,Nat.mul_one] at hv309_0;replace hv309_0:=os' (hv309_0.symm.trans hx309_0);injection hv309_0 with hva_ hvn_ hvc_
                        rw[hva_] at ge309_0;rw[hvc_] at ul309_0;have HL309_0:=am' (show Kd.V (Kd.int .i64) 3 _ w.heap.size _ _ (rd_L2 t306 x49_2) from Kd.V_mk ul309_0 ge309_0);clear hva_ hvn_ hvc_ ge309_0 ul309_0;clear hcc309 hce309;have HR309_0:=am' hi309_0;have HC309_0:=am' hl309_0;clear hi309_0 hl309_0;replace p309:=eq_true p309;replace q309:=eq_true q309;have hnb85:=NB305_274.out;have hnc85:=NB274_305.out;have hcz86_0:wr.cell? ⟨gb305,0,none⟩=some (.slice Ao36 t301.length co36):=(bc' BK305.out 0).trans rfl;have hcz86_1:wr.cell? ⟨gb305,1,none⟩=some (.bool t304):=(bc' BK305.out 1).trans rfl;have hfz86_0:=bf' BK305.out 0;have hfz86_1:=bf' BK305.out 1
                        try go_wp2_with (first|((with_reducible refine gate_callee (f:=44) rfl ?_);refine goesL_ (some 55) rfl rfl Try.func44 xk' rfl #[.agg #[.slice Ao36 t301.length co36, .bool t304], .slice A309_0 (rd_L2 t306 x49_2).length c309_0] rfl xl' ?_;(with_reducible refine (spec_paCross.calls k2 _ _ t301 t304 _ _ (rd_L2 t306 x49_2) t310 t313 _ ?side1 ?side2 ?side3 ?side4 A45.out).mono ?_);(case side1=>exact kc' ((Kd.R_reads' HO_306000.out).2.2));(case side2=>exact (Kd.R_reads' HO_306000.out).2.1);(case side3=>exact kc' (kx' HR309_0.out));(case side4=>exact HC309_0.out);rintro e w87 ⟨v311,rfl,ho0,hb⟩;refine ⟨_,rfl,?_⟩;have n0_:=am' (rb' (kr' HO_4.out) hb);have n1_:=am' (rb' (kr' HO_5.out) hb);have n2_:=am' (rb' (kr' HO_6.out) hb);have n3_:=am' (rb' (kr' HO_25.out) hb);have n4_:=am' (Kd.N_elder' (kN' HO_47.out) (Kd.R_base ho0) hb);have n5_:=am' (Kd.R_elder' (kr' HO_306000.out) (Kd.R_base ho0) hb);have n6_:=am' (Kd.V_elder' (kV' HL309_0.out) (Kd.R_base ho0) hb);have n7_:=am' (Kd.R_lower (Kd.R_new' ho0 (Kd.R_lt (kr' HO_306000.out))) (bz' (y2' GE274.out GE305.out)));have n8_:=am' (bb' (g:=gb274) (o := .cells #[.slice A0_0 l0_0.length c0_0, .int .i64 a0_1] 28 (0,0)) (kk' BK274.out) hb);have n9_:=am' (bb' (g:=gb305) (o := .cells #[.slice Ao36 t301.length co36, .bool t304] 54 (0,0)) (kk' BK305.out) hb);have n10_:=am' (cb' (kx' HR309_0.out) hb);have n11_:=am' (bt' (y2' GE274.out GE305.out) hb);clear HO_4;clear HO_5;clear HO_6;clear HO_25;clear HO_47;clear HO_306000;clear HL309_0;clear BK274;clear BK305;clear HR309_0;clear HB;have HO_4:=n0_;have HO_5:=n1_;have HO_6:=n2_;have HO_25:=n3_;have HO_47:=n4_;have HO_306000:=n5_;have HL309_0:=n6_;have HO312:=n7_;have BK274:=n8_;have BK305:=n9_;have HR309_0:=n10_;have HB:=n11_;clear n0_ n1_ n2_ n3_ n4_ n5_ n6_ n7_ n8_ n9_ n10_ n11_;(try clear hb);(try clear hb2);(try clear hk);(try clear hi);(try clear ho0);obtain ⟨Ao88,co88,eo88⟩:=Kd.R_slice HO312.out;subst eo88)|((with_reducible refine gate_callee (f:=40) rfl ?_);refine goesL_ (some 56) rfl rfl Try.func40 xk' rfl #[.agg #[.slice Ao88 t310.length co88, .bool t313]] rfl xl' ?_;(with_reducible refine (spec_seIndex.calls k2 _ _ t310 t313 t314 _ ?side1 ?side2 A46.out).mono ?_);(case side1=>exact kc' ((Kd.R_reads' HO312.out).2.2));(case side2=>exact (Kd.R_reads' HO312.out).2.1);rintro e w89 ⟨rfl,hb⟩;refine ⟨_,rfl,?_⟩;have n0_:=am' (rb' (kr' HO_4.out) hb);have n1_:=am' (rb' (kr' HO_5.out) hb);have n2_:=am' (rb' (kr' HO_6.out) hb);have n3_:=am' (rb' (kr' HO_25.out) hb);have n4_:=am' (Kd.N_below (kN' HO_47.out) hb);have n5_:=am' (rb' (kr' HO_306000.out) hb);have n6_:=am' (Kd.V_below (kV' HL309_0.out) hb);have n7_:=am' (rb' (kr' HO312.out) hb);have n8_:=am' (bb' (g:=gb274) (o := .cells #[.slice A0_0 l0_0.length c0_0, .int .i64 a0_1] 28 (0,0)) (kk' BK274.out) hb);have n9_:=am' (bb' (g:=gb305) (o := .cells #[.slice Ao36 t301.length co36, .bool t304] 54 (0,0)) (kk' BK305.out) hb);have n10_:=am' (cb' (kx' HR309_0.out) hb);have n11_:=am' (bt' (y2' GE274.out GE305.out) hb);clear HO_4;clear HO_5;clear HO_6;clear HO_25;clear HO_47;clear HO_306000;clear HL309_0;clear HO312;clear BK274;clear BK305;clear HR309_0;clear HB;have HO_4:=n0_;have HO_5:=n1_;have HO_6:=n2_;have HO_25:=n3_;have HO_47:=n4_;have HO_306000:=n5_;have HL309_0:=n6_;have HO312:=n7_;have BK274:=n8_;have BK305:=n9_;have HR309_0:=n10_;have HB:=n11_;clear n0_ n1_ n2_ n3_ n4_ n5_ n6_ n7_ n8_ n9_ n10_ n11_;(try clear hb);(try clear hb2);(try clear hk);(try clear hi)))
                        have n0_:=am' (rw' HO_4.out);have n1_:=am' (rw' HO_5.out);have n2_:=am' (rw' HO_6.out);have n3_:=am' (rw' HO_25.out);have n4_:=am' (Kd.N_drew HO_47.out);have n5_:=am' (rw' HO_306000.out);have n6_:=am' (Kd.V_drew HL309_0.out);have n7_:=am' (rw' HO312.out);have n8_:=am' (kd' BK274.out);have n9_:=am' (kd' BK305.out);have n10_:=am' (cd' HR309_0.out);have n11_:=am' (be' HB.out);clear HO_4;clear HO_5;clear HO_6;clear HO_25;clear HO_47;clear HO_306000;clear HL309_0;clear HO312;clear BK274;clear BK305;clear HR309_0;clear HB;have HO_4:=n0_;have HO_5:=n1_;have HO_6:=n2_;have HO_25:=n3_;have HO_47:=n4_;have HO_306000:=n5_;have HL309_0:=n6_;have HO312:=n7_;have BK274:=n8_;have BK305:=n9_;have HR309_0:=n10_;have HB:=n11_;clear n0_ n1_ n2_ n3_ n4_ n5_ n6_ n7_ n8_ n9_ n10_ n11_;obtain ⟨Ao91,co91,eo91⟩:=Kd.R_slice HO_5.out
                        (first|subst eo91|(injection eo91 with f1_ f2_ f3_;have f4_:=f1_.symm;have f5_:=f3_.symm;clear f1_ f2_ f3_;subst f4_;subst f5_))
                        have p315:0≤((rd t288 x27_1):Int):=od' xa';have q315:(rd t288 x27_1) < (x5_2.length:Int):=od' xa';obtain ⟨ad315,e315,hx315_0⟩:=Kd.at_int (Kd.R_reads' HO_5.out).2.2 (rd t288 x27_1) p315 q315;cases e315;replace p315:=eq_true p315;replace q315:=eq_true q315;have p316:0≤(t314:Int):=od' xa';have q316:t314 < (x5_2.length:Int):=od' xa';obtain ⟨ad316,e316,hx316_0⟩:=Kd.at_int (Kd.R_reads' HO_5.out).2.2 t314 p316 q316;obtain rfl:ad315=ad316:=(by injection e316)
                        replace p316:=eq_true p316;replace q316:=eq_true q316;have p51:0≤((rd t288 x27_1):Int):=od' xa';have q51:((rd t288 x27_1):Int) < ((x5_2.length:Int):Int):=od' xa';obtain ⟨go51,co51,eo51,gb51,gl51,cl51,HG51⟩:=Kd.R_form HO_5.out (by omega)
                        (first|cases eo51|(injection eo51 with ea_ en_ ec_;(first|subst ea_|(injection ea_ with ea_;subst ea_));subst ec_;clear en_))
                        have GB51:=am' gb51;have GG51:=am' HG51;clear gb51 gl51 HG51;(first|simp only[add_plain] at hx315_0|skip)
                        (first|simp only[add_plain] at hx316_0|skip)
                        obtain ⟨hx51_0,hf51_0⟩:=Kd.R_celln 0 HO_5.out ((rd t288 x27_1):Int) p51 q51;replace p51:=eq_true p51;replace q51:=eq_true q51;have HP92:=Kd.R_putn HO_5.out ((rd t288 x27_1):Int) (wrap64 ((rd x5_2 (rd t288 x27_1))+(rd x5_2 t314)));rw[← Ny317.out] at HP92;have HQ92:=am' HP92;clear HP92;refine start_ (n:=11) (S:=fun w'=>w'.cell? ⟨go51,((rd t288 x27_1)).toNat,none⟩=some (.int .i64 (rd x5_2 (rd t288 x27_1)))∧w'.cell? ⟨go51,(t314).toNat,none⟩=some (.int .i64 (rd x5_2 t314))) (ds:=[10]) #[false,false,false,false,false,false,false,false,false,false,false] xk' rfl rfl ⟨hx315_0,hx316_0⟩ (fun hHeld=>?_);refine with_tabW spec_seCount.tab13 spec_seCount.bits13 (fun HT_ HW_=>?_);generalize w89.drew=w90 at HO_4 HO_5 HO_6 HO_25 HO_47 HO_306000 HL309_0 HO312 BK274 BK305 HR309_0 HB GG51 HQ92 hf51_0 hx315_0 hx316_0 hx51_0 hHeld ⊢
                        refine pure_ (i:=0) (N:=some 57) (v:=?_) (a':=?_) #[true,false,false,false,false,false,false,false,false,false,false] rfl rfl (any_of HT_.out xk') (fun _ _ _ h=>h) (Or.inl ⟨by rfl,?_⟩) ?_ ?_
                        rotate_left
                        ·
                         intro w';go_simp;with_reducible rfl
                        rotate_left
                        ·
                         simp only[Act.put,sa',sb',sc',i64_w,i32_w];rfl
                        refine pure_ (i:=1) (N:=some 58) (v:=?_) (a':=?_) #[true,true,false,false,false,false,false,false,false,false,false] rfl rfl (any_of HT_.out xk') (fun _ _ _ h=>h) (Or.inl ⟨by rfl,?_⟩) ?_ ?_
                        rotate_left
                        ·
                         intro w';go_simp;with_reducible rfl
                        rotate_left
                        ·
                         simp only[Act.put,sa',sb',sc',i64_w,i32_w];rfl
                        refine pure_ (i:=2) (N:=some 59) (v:=?_) (a':=?_) #[true,true,true,false,false,false,false,false,false,false,false] rfl rfl (any_of HT_.out xk') (fun _ _ _ h=>h) (Or.inl ⟨by rfl,?_⟩) ?_ ?_
                        rotate_left
                        ·
                         intro w';go_simp;with_reducible rfl
                        rotate_left
                        ·
                         simp only[Act.put,sa',sb',sc',i64_w,i32_w];rfl
                        refine pure_ (i:=4) (N:=some 61) (v:=?_) (a':=?_) #[true,true,true,false,true,false,false,false,false,false,false] rfl rfl (any_of HT_.out xk') (fun _ _ _ h=>h) (Or.inl ⟨by rfl,?_⟩) ?_ ?_
                        rotate_left
                        ·
                         intro w';go_simp;with_reducible rfl
                        rotate_left
                        ·
                         simp only[Act.put,sa',sb',sc',i64_w,i32_w];rfl
                        refine pure_ (i:=5) (N:=some 62) (v:=?_) (a':=?_) #[true,true,true,false,true,true,false,false,false,false,false] rfl rfl (any_of HT_.out xk') (fun _ _ _ h=>h) (Or.inl ⟨by rfl,?_⟩) ?_ ?_
                        rotate_left
                        ·
                         intro w';go_simp;with_reducible rfl
                        rotate_left
                        ·
                         simp only[Act.put,sa',sb',sc',i64_w,i32_w];rfl
                        refine pure_ (i:=6) (N:=some 63) (v:=?_) (a':=?_) #[true,true,true,false,true,true,true,false,false,false,false] rfl rfl (any_of HT_.out xk') (fun _ _ _ h=>h) (Or.inl ⟨by rfl,?_⟩) ?_ ?_
                        rotate_left
                        ·
                         intro w';go_simp;with_reducible rfl
                        rotate_left
                        ·
                         simp only[Act.put,sa',sb',sc',i64_w,i32_w];rfl
                        refine take_ (i:=3) (N:=some 60) (v:=?_) (a':=?_) #[true,true,true,true,true,true,true,false,false,false,false] rfl rfl (take_ofW HT_.out HW_.out xk') (fun _ _ _ h=>h) (Or.inl ⟨by rfl,?_⟩) hHeld ?_ ?_
                        rotate_left
                        ·
                         rintro w' ⟨s0,s1⟩
                         go_simp;with_reducible rfl
                        rotate_left
                        ·
                         simp only[Act.put,sa',sb',sc',i64_w,i32_w];rfl
                        refine take_ (i:=7) (N:=some 64) (v:=?_) (a':=?_) #[true,true,true,true,true,true,true,true,false,false,false] rfl rfl (take_ofW HT_.out HW_.out xk') (fun _ _ _ h=>h) (Or.inl ⟨by rfl,?_⟩) hHeld ?_ ?_
                        rotate_left
                        ·
                         rintro w' ⟨s0,s1⟩
                         go_simp;with_reducible rfl
                        rotate_left
                        ·
                         simp only[Act.put,sa',sb',sc',i64_w,i32_w];rfl
                        refine pure_ (i:=8) (N:=some 65) (v:=?_) (a':=?_) #[true,true,true,true,true,true,true,true,true,false,false] rfl rfl (any_of HT_.out xk') (fun _ _ _ h=>h) (Or.inl ⟨by rfl,?_⟩) ?_ ?_
                        rotate_left
                        ·
                         intro w';go_simp;with_reducible rfl
                        rotate_left
                        ·
                         simp only[Act.put,sa',sb',sc',i64_w,i32_w];rfl
                        refine pure_ (i:=9) (N:=some 66) (v:=?_) (a':=?_) #[true,true,true,true,true,true,true,true,true,true,false] rfl rfl (any_of HT_.out xk') (fun _ _ _ h=>h) (Or.inl ⟨by rfl,?_⟩) ?_ ?_
                        rotate_left
                        ·
                         intro w';go_simp;with_reducible rfl
                        rotate_left
                        ·
                         simp only[Act.put,sa',sb',sc',i64_w,i32_w];rfl
                        refine last_ (i:=10) (N:=none) #[true,true,true,true,true,true,true,true,true,true,true] rfl rfl (one_of HT_.out xk') (by decide) (fun K hK=>?_);refine skip_ (w1:=?_) (by rfl) rfl ?_ ?_
                        rotate_left
                        ·
                         go_simp;rfl
                        refine hK.out _ _ ?_
                        clear hK K;refine done_ (done_of HT_.out xk') ?_
                        try go_wp2
                        have n0_:Aside0 (Kd.R (Kd.int .i64) 3 (w90.setCell ⟨go51,((rd t288 x27_1):Int).toNat,none⟩ (.int .i64 (wrap64 ((rd x5_2 (rd t288 x27_1))+(rd x5_2 t314))))) w.heap.size (fun k_=>some k_≠(.slice (some ⟨go51,0,none⟩) x5_2.length co91:Value).ownBlock∧some k_≠(v286:Value).ownBlock∧some k_≠(.slice (some ad298) t288.length co20:Value).ownBlock) (.slice (some ad299) t279.length co13) t279):=⟨by (with_reducible repeat (first|apply ra'|apply rn'|apply rw'));exact Kd.R_mono (Kd.R_far (p:=⟨go51,((rd t288 x27_1):Int).toNat,none⟩) (Kd.R_mono HO_4.out (fun k_ hk=>(⟨hk,fun e_=>hk.1 (by rw[e_];rfl)⟩:_∧k_≠go51))) (fun _ hk=>hk.2) (.int .i64 (wrap64 ((rd x5_2 (rd t288 x27_1))+(rd x5_2 t314))))) (fun _ hk=>⟨hk.1.1,⟨hk.1.2.1,hk.1.2.2⟩⟩)⟩
                        have n1_:Aside0 (Kd.R (Kd.int .i64) 3 (w90.setCell ⟨go51,((rd t288 x27_1):Int).toNat,none⟩ (.int .i64 (wrap64 ((rd x5_2 (rd t288 x27_1))+(rd x5_2 t314))))) w.heap.size (fun k_=>some k_≠(.slice (some ad299) t279.length co13:Value).ownBlock∧some k_≠(v286:Value).ownBlock∧some k_≠(.slice (some ad298) t288.length co20:Value).ownBlock) (.slice (some ⟨go51,0,none⟩) x5_2.length co91) y317):=⟨kr' HQ92.out⟩
                        have n2_:Aside0 (Kd.R (Kd.int .i64) 3 (w90.setCell ⟨go51,((rd t288 x27_1):Int).toNat,none⟩ (.int .i64 (wrap64 ((rd x5_2 (rd t288 x27_1))+(rd x5_2 t314))))) w.heap.size (fun k_=>some k_≠(.slice (some ad299) t279.length co13:Value).ownBlock∧some k_≠(.slice (some ⟨go51,0,none⟩) x5_2.length co91:Value).ownBlock∧some k_≠(.slice (some ad298) t288.length co20:Value).ownBlock) v286 x6_2):=⟨by (with_reducible repeat (first|apply ra'|apply rn'|apply rw'));exact Kd.R_mono (Kd.R_far (p:=⟨go51,((rd t288 x27_1):Int).toNat,none⟩) (Kd.R_mono HO_6.out (fun k_ hk=>(⟨hk,fun e_=>hk.2.1 (by rw[e_];rfl)⟩:_∧k_≠go51))) (fun _ hk=>hk.2) (.int .i64 (wrap64 ((rd x5_2 (rd t288 x27_1))+(rd x5_2 t314))))) (fun _ hk=>⟨hk.1.1,⟨hk.1.2.1,hk.1.2.2⟩⟩)⟩
                        have n3_:Aside0 (Kd.R (Kd.int .i64) 3 (w90.setCell ⟨go51,((rd t288 x27_1):Int).toNat,none⟩ (.int .i64 (wrap64 ((rd x5_2 (rd t288 x27_1))+(rd x5_2 t314))))) w.heap.size (fun k_=>some k_≠(.slice (some ad299) t279.length co13:Value).ownBlock∧some k_≠(.slice (some ⟨go51,0,none⟩) x5_2.length co91:Value).ownBlock∧some k_≠(v286:Value).ownBlock) (.slice (some ad298) t288.length co20) t288):=⟨by (with_reducible repeat (first|apply ra'|apply rn'|apply rw'));exact Kd.R_mono (Kd.R_far (p:=⟨go51,((rd t288 x27_1):Int).toNat,none⟩) (Kd.R_mono HO_25.out (fun k_ hk=>(⟨hk,fun e_=>hk.2.1 (by rw[e_];rfl)⟩:_∧k_≠go51))) (fun _ hk=>hk.2) (.int .i64 (wrap64 ((rd x5_2 (rd t288 x27_1))+(rd x5_2 t314))))) (fun _ hk=>⟨hk.1.1,⟨hk.1.2.1,hk.1.2.2⟩⟩)⟩
                        have n4_:Aside0 (Kd.N (Kd.slice 3 (Kd.int .i64)) 22 (w90.setCell ⟨go51,((rd t288 x27_1):Int).toNat,none⟩ (.int .i64 (wrap64 ((rd x5_2 (rd t288 x27_1))+(rd x5_2 t314))))) w.heap.size (fun k_=>some k_≠(.slice (some ad299) t279.length co13:Value).ownBlock∧some k_≠(.slice (some ⟨go51,0,none⟩) x5_2.length co91:Value).ownBlock∧some k_≠(v286:Value).ownBlock∧some k_≠(.slice (some ad298) t288.length co20:Value).ownBlock∧some k_≠(.slice Ao36 t301.length co36:Value).ownBlock∧some k_≠(.slice Ao88 t310.length co88:Value).ownBlock∧k_≠gb274∧k_≠gb305) (.slice (some ad309) t306.length co41) t306):=⟨by (with_reducible repeat (first|apply Kd.N_alloc|apply Kd.N_drewN|apply Kd.N_drew));exact Kd.N_mono (Kd.N_far (p:=⟨go51,((rd t288 x27_1):Int).toNat,none⟩) (Kd.N_mono HO_47.out (fun k_ hk=>(⟨hk,fun e_=>hk.1.2.1 (by rw[e_];rfl)⟩:_∧k_≠go51))) (fun _ hk=>hk.2) (.int .i64 (wrap64 ((rd x5_2 (rd t288 x27_1))+(rd x5_2 t314))))) (fun _ hk=>⟨hk.1.1.1,⟨hk.1.1.2.1,⟨hk.1.1.2.2.1,⟨hk.1.1.2.2.2.1,⟨hk.1.1.2.2.2.2.1,⟨hk.1.2,⟨hk.1.1.2.2.2.2.2.1,hk.1.1.2.2.2.2.2.2⟩⟩⟩⟩⟩⟩⟩)⟩
                        have n5_:Aside0 (Kd.R Kd.bool 4 (w90.setCell ⟨go51,((rd t288 x27_1):Int).toNat,none⟩ (.int .i64 (wrap64 ((rd x5_2 (rd t288 x27_1))+(rd x5_2 t314))))) w.heap.size (fun k_=>some k_≠(.slice Ao88 t310.length co88:Value).ownBlock) (.slice Ao36 t301.length co36) t301):=⟨by (with_reducible repeat (first|apply ra'|apply rn'|apply rw'));exact Kd.R_mono (Kd.R_far (p:=⟨go51,((rd t288 x27_1):Int).toNat,none⟩) (Kd.R_types HO_306000.out GG51.out (by decide)) (fun _ hk=>hk.2) (.int .i64 (wrap64 ((rd x5_2 (rd t288 x27_1))+(rd x5_2 t314))))) (fun _ hk=>hk.1.2)⟩
                        have n6_:Aside0 (Kd.V (Kd.int .i64) 3 (w90.setCell ⟨go51,((rd t288 x27_1):Int).toNat,none⟩ (.int .i64 (wrap64 ((rd x5_2 (rd t288 x27_1))+(rd x5_2 t314))))) w.heap.size (fun k_=>some k_≠(.slice (some ad299) t279.length co13:Value).ownBlock∧some k_≠(.slice (some ⟨go51,0,none⟩) x5_2.length co91:Value).ownBlock∧some k_≠(v286:Value).ownBlock∧some k_≠(.slice (some ad298) t288.length co20:Value).ownBlock∧some k_≠(.slice (some ad309) t306.length co41:Value).ownBlock∧some k_≠(.slice Ao36 t301.length co36:Value).ownBlock∧some k_≠(.slice Ao88 t310.length co88:Value).ownBlock∧k_≠gb274∧k_≠gb305) (.slice A309_0 (rd_L2 t306 x49_2).length c309_0) (rd_L2 t306 x49_2)):=⟨by (with_reducible repeat (first|apply Kd.V_alloc|apply Kd.V_drewN|apply Kd.V_drew));exact Kd.V_mono (Kd.V_far (p:=⟨go51,((rd t288 x27_1):Int).toNat,none⟩) (Kd.V_mono HL309_0.out (fun k_ hk=>(⟨hk,fun e_=>hk.1.1.2.1 (by rw[e_];rfl)⟩:_∧k_≠go51))) (fun _ hk=>hk.2) (.int .i64 (wrap64 ((rd x5_2 (rd t288 x27_1))+(rd x5_2 t314))))) (fun _ hk=>⟨hk.1.1.1.1,⟨hk.1.1.1.2.1,⟨hk.1.1.1.2.2.1,⟨hk.1.1.1.2.2.2.1,⟨hk.1.1.2,⟨hk.1.1.1.2.2.2.2.1,⟨hk.1.2,⟨hk.1.1.1.2.2.2.2.2.1,hk.1.1.1.2.2.2.2.2.2⟩⟩⟩⟩⟩⟩⟩⟩)⟩
                        have n7_:Aside0 (Kd.R Kd.bool 4 (w90.setCell ⟨go51,((rd t288 x27_1):Int).toNat,none⟩ (.int .i64 (wrap64 ((rd x5_2 (rd t288 x27_1))+(rd x5_2 t314))))) w.heap.size (fun k_=>some k_≠(.slice Ao36 t301.length co36:Value).ownBlock) (.slice Ao88 t310.length co88) t310):=⟨by (with_reducible repeat (first|apply ra'|apply rn'|apply rw'));exact Kd.R_mono (Kd.R_far (p:=⟨go51,((rd t288 x27_1):Int).toNat,none⟩) (Kd.R_types HO312.out GG51.out (by decide)) (fun _ hk=>hk.2) (.int .i64 (wrap64 ((rd x5_2 (rd t288 x27_1))+(rd x5_2 t314))))) (fun _ hk=>hk.1.2)⟩
                        have n8_:Aside0 ((w90.setCell ⟨go51,((rd t288 x27_1):Int).toNat,none⟩ (.int .i64 (wrap64 ((rd x5_2 (rd t288 x27_1))+(rd x5_2 t314))))).heap[gb274]? = some (.cells #[.slice A0_0 l0_0.length c0_0, .int .i64 a0_1] 28 (0,0))):=⟨by (with_reducible repeat (first|refine kn' ?_ _|refine kd' ?_|refine ka' ?_ _));refine blk_far ?_ (by have h_:=Kd.R_ne HO_5.out BK274.out (by decide);intro e_;exact h_ (by rw[e_];rfl)) _;(with_reducible repeat (first|refine kn' ?_ _|refine kd' ?_|refine ka' ?_ _));exact BK274.out⟩
                        have n9_:Aside0 ((w90.setCell ⟨go51,((rd t288 x27_1):Int).toNat,none⟩ (.int .i64 (wrap64 ((rd x5_2 (rd t288 x27_1))+(rd x5_2 t314))))).heap[gb305]? = some (.cells #[.slice Ao36 t301.length co36, .bool t304] 54 (0,0))):=⟨by (with_reducible repeat (first|refine kn' ?_ _|refine kd' ?_|refine ka' ?_ _));refine blk_far ?_ (by have h_:=Kd.R_ne HO_5.out BK305.out (by decide);intro e_;exact h_ (by rw[e_];rfl)) _;(with_reducible repeat (first|refine kn' ?_ _|refine kd' ?_|refine ka' ?_ _));exact BK305.out⟩
                        have n10_:Aside0 (Below w.heap.size w (w90.setCell ⟨go51,((rd t288 x27_1):Int).toNat,none⟩ (.int .i64 (wrap64 ((rd x5_2 (rd t288 x27_1))+(rd x5_2 t314)))))):=⟨y3' GB51.out GE274.out GE305.out⟩
                        (try clear HO_4)
                        (try clear HO_5)
                        (try clear HO_6)
                        (try clear HO_25)
                        (try clear HO_47)
                        (try clear HO_306000)
                        (try clear HL309_0)
                        (try clear HO312)
                        (try clear BK274)
                        (try clear BK305)
                        (try clear HB)
                        generalize (w90.setCell ⟨go51,((rd t288 x27_1):Int).toNat,none⟩ (.int .i64 (wrap64 ((rd x5_2 (rd t288 x27_1))+(rd x5_2 t314)))))=w93 at n0_ n1_ n2_ n3_ n4_ n5_ n6_ n7_ n8_ n9_ n10_ ⊢
                        have HO_4:=n0_;have HO_5:=n1_;have HO_6:=n2_;have HO_25:=n3_;have HO_47:=n4_;have HO_306000:=n5_;have HL309_0:=n6_;have HO312:=n7_;have BK274:=n8_;have BK305:=n9_;have HB:=n10_;clear n0_ n1_ n2_ n3_ n4_ n5_ n6_ n7_ n8_ n9_ n10_;have n0_:=am' (rw' HO_4.out);have n1_:=am' (rw' HO_5.out);have n2_:=am' (rw' HO_6.out);have n3_:=am' (rw' HO_25.out);have n4_:=am' (Kd.N_drew HO_47.out);have n5_:=am' (rw' HO_306000.out);have n6_:=am' (Kd.V_drew HL309_0.out);have n7_:=am' (rw' HO312.out);have n8_:=am' (kd' BK274.out);have n9_:=am' (kd' BK305.out);have n10_:=am' (be' HB.out);clear HO_4;clear HO_5;clear HO_6;clear HO_25;clear HO_47;clear HO_306000;clear HL309_0;clear HO312;clear BK274;clear BK305;clear HB;have HO_4:=n0_;have HO_5:=n1_;have HO_6:=n2_;have HO_25:=n3_;have HO_47:=n4_;have HO_306000:=n5_;have HL309_0:=n6_;have HO312:=n7_;have BK274:=n8_;have BK305:=n9_;have HB:=n10_;clear n0_ n1_ n2_ n3_ n4_ n5_ n6_ n7_ n8_ n9_ n10_;obtain ⟨Ao95,co95,eo95⟩:=Kd.R_slice HO_6.out
                        (first|subst eo95|(injection eo95 with f1_ f2_ f3_;have f4_:=f1_.symm;have f5_:=f3_.symm;clear f1_ f2_ f3_;subst f4_;subst f5_))
                        have p318:0≤((rd t288 x27_1):Int):=od' xa';have q318:(rd t288 x27_1) < (x6_2.length:Int):=od' xa';obtain ⟨ad318,e318,hx318_0⟩:=Kd.at_int (Kd.R_reads' HO_6.out).2.2 (rd t288 x27_1) p318 q318;cases e318;replace p318:=eq_true p318;replace q318:=eq_true q318;have p321:0≤(t314:Int):=od' xa';have q321:t314 < (x6_2.length:Int):=od' xa';obtain ⟨ad321,e321,hx321_0⟩:=Kd.at_int (Kd.R_reads' HO_6.out).2.2 t314 p321 q321;obtain rfl:ad318=ad321:=(by injection e321)
                        replace p321:=eq_true p321;replace q321:=eq_true q321;have p322:0≤((rd t288 x27_1):Int):=od' xa';have q322:(rd t288 x27_1) < (x6_2.length:Int):=od' xa';obtain ⟨ad322,e322,hx322_0⟩:=Kd.at_int (Kd.R_reads' HO_6.out).2.2 (rd t288 x27_1) p322 q322;obtain rfl:ad318=ad322:=(by injection e322)
                        replace p322:=eq_true p322;replace q322:=eq_true q322;refine start_ (n:=17) (S:=fun w'=>w'.cell? (ad318.add ((rd t288 x27_1)).toNat)=some (.int .i64 (rd x6_2 (rd t288 x27_1)))∧w'.cell? (ad318.add (t314).toNat)=some (.int .i64 (rd x6_2 t314))∧w'.cell? (ad318.add ((rd t288 x27_1)).toNat)=some (.int .i64 (rd x6_2 (rd t288 x27_1)))) (ds:=[]) #[false,false,false,false,false,false,false,false,false,false,false,false,false,false,false,false,false] xk' rfl rfl ⟨hx318_0,hx321_0,hx322_0⟩ (fun hHeld=>?_);refine with_tabW spec_seCount.tab14 spec_seCount.bits14 (fun HT_ HW_=>?_);generalize w93.drew=w94 at HO_4 HO_5 HO_6 HO_25 HO_47 HO_306000 HL309_0 HO312 BK274 BK305 HB HQ92 hx318_0 hx321_0 hx322_0 hHeld ⊢
                        refine pure_ (i:=0) (N:=some 67) (v:=?_) (a':=?_) #[true,false,false,false,false,false,false,false,false,false,false,false,false,false,false,false,false] rfl rfl (any_of HT_.out xk') (fun _ _ _ h=>h) (Or.inl ⟨by rfl,?_⟩) ?_ ?_
                        rotate_left
                        ·
                         intro w';go_simp;with_reducible rfl
                        rotate_left
                        ·
                         simp only[Act.put,sa',sb',sc',i64_w,i32_w];rfl
                        refine pure_ (i:=1) (N:=some 68) (v:=?_) (a':=?_) #[true,true,false,false,false,false,false,false,false,false,false,false,false,false,false,false,false] rfl rfl (any_of HT_.out xk') (fun _ _ _ h=>h) (Or.inl ⟨by rfl,?_⟩) ?_ ?_
                        rotate_left
                        ·
                         intro w';go_simp;with_reducible rfl
                        rotate_left
                        ·
                         simp only[Act.put,sa',sb',sc',i64_w,i32_w];rfl
                        refine pure_ (i:=2) (N:=some 69) (v:=?_) (a':=?_) #[true,true,true,false,false,false,false,false,false,false,false,false,false,false,false,false,false] rfl rfl (any_of HT_.out xk') (fun _ _ _ h=>h) (Or.inl ⟨by rfl,?_⟩) ?_ ?_
                        rotate_left
                        ·
                         intro w';go_simp;with_reducible rfl
                        rotate_left
                        ·
                         simp only[Act.put,sa',sb',sc',i64_w,i32_w];rfl
                        refine take_ (i:=3) (N:=some 70) (v:=?_) (a':=?_) #[true,true,true,true,false,false,false,false,false,false,false,false,false,false,false,false,false] rfl rfl (take_ofW HT_.out HW_.out xk') (fun _ _ _ h=>h) (Or.inl ⟨by rfl,?_⟩) hHeld ?_ ?_
                        rotate_left
                        ·
                         rintro w' ⟨s0,s1,s2⟩
                         go_simp;with_reducible rfl
                        rotate_left
                        ·
                         simp only[Act.put,sa',sb',sc',i64_w,i32_w];rfl
                        refine pure_ (i:=4) (N:=some 71) (v:=?_) (a':=?_) #[true,true,true,true,true,false,false,false,false,false,false,false,false,false,false,false,false] rfl rfl (any_of HT_.out xk') (fun _ _ _ h=>h) (Or.inl ⟨by rfl,?_⟩) ?_ ?_
                        rotate_left
                        ·
                         intro w';go_simp;with_reducible rfl
                        rotate_left
                        ·
                         simp only[Act.put,sa',sb',sc',i64_w,i32_w];rfl
                        refine pure_ (i:=5) (N:=some 72) (v:=?_) (a':=?_) #[true,true,true,true,true,true,false,false,false,false,false,false,false,false,false,false,false] rfl rfl (any_of HT_.out xk') (fun _ _ _ h=>h) (Or.inl ⟨by rfl,?_⟩) ?_ ?_
                        rotate_left
                        ·
                         intro w';go_simp;with_reducible rfl
                        rotate_left
                        ·
                         simp only[Act.put,sa',sb',sc',i64_w,i32_w];rfl
                        refine pure_ (i:=6) (N:=some 73) (v:=?_) (a':=?_) #[true,true,true,true,true,true,true,false,false,false,false,false,false,false,false,false,false] rfl rfl (any_of HT_.out xk') (fun _ _ _ h=>h) (Or.inl ⟨by rfl,?_⟩) ?_ ?_
                        rotate_left
                        ·
                         intro w';go_simp;with_reducible rfl
                        rotate_left
                        ·
                         simp only[Act.put,sa',sb',sc',i64_w,i32_w];rfl
                        refine pure_ (i:=7) (N:=some 74) (v:=?_) (a':=?_) #[true,true,true,true,true,true,true,true,false,false,false,false,false,false,false,false,false] rfl rfl (any_of HT_.out xk') (fun _ _ _ h=>h) (Or.inl ⟨by rfl,?_⟩) ?_ ?_
                        rotate_left
                        ·
                         intro w';go_simp;with_reducible rfl
                        rotate_left
                        ·
                         simp only[Act.put,sa',sb',sc',i64_w,i32_w];rfl
                        refine pure_ (i:=8) (N:=some 75) (v:=?_) (a':=?_) #[true,true,true,true,true,true,true,true,true,false,false,false,false,false,false,false,false] rfl rfl (any_of HT_.out xk') (fun _ _ _ h=>h) (Or.inl ⟨by rfl,?_⟩) ?_ ?_
                        rotate_left
                        ·
                         intro w';go_simp;with_reducible rfl
                        rotate_left
                        ·
                         simp only[Act.put,sa',sb',sc',i64_w,i32_w];rfl
                        refine pure_ (i:=11) (N:=some 78) (v:=?_) (a':=?_) #[true,true,true,true,true,true,true,true,true,false,false,true,false,false,false,false,false] rfl rfl (any_of HT_.out xk') (fun _ _ _ h=>h) (Or.inl ⟨by rfl,?_⟩) ?_ ?_
                        rotate_left
                        ·
                         intro w';go_simp;with_reducible rfl
                        rotate_left
                        ·
                         simp only[Act.put,sa',sb',sc',i64_w,i32_w];rfl
                        refine pure_ (i:=12) (N:=some 79) (v:=?_) (a':=?_) #[true,true,true,true,true,true,true,true,true,false,false,true,true,false,false,false,false] rfl rfl (any_of HT_.out xk') (fun _ _ _ h=>h) (Or.inl ⟨by rfl,?_⟩) ?_ ?_
                        rotate_left
                        ·
                         intro w';go_simp;with_reducible rfl
                        rotate_left
                        ·
                         simp only[Act.put,sa',sb',sc',i64_w,i32_w];rfl
                        refine pure_ (i:=13) (N:=some 80) (v:=?_) (a':=?_) #[true,true,true,true,true,true,true,true,true,false,false,true,true,true,false,false,false] rfl rfl (any_of HT_.out xk') (fun _ _ _ h=>h) (Or.inl ⟨by rfl,?_⟩) ?_ ?_
                        rotate_left
                        ·
                         intro w';go_simp;with_reducible rfl
                        rotate_left
                        ·
                         simp only[Act.put,sa',sb',sc',i64_w,i32_w];rfl
                        refine take_ (i:=9) (N:=some 76) (v:=?_) (a':=?_) #[true,true,true,true,true,true,true,true,true,true,false,true,true,true,false,false,false] rfl rfl (take_ofW HT_.out HW_.out xk') (fun _ _ _ h=>h) (Or.inl ⟨by rfl,?_⟩) hHeld ?_ ?_
                        rotate_left
                        ·
                         rintro w' ⟨s0,s1,s2⟩
                         go_simp;with_reducible rfl
                        rotate_left
                        ·
                         simp only[Act.put,sa',sb',sc',i64_w,i32_w];rfl
                        refine pure_ (i:=10) (N:=some 77) (v:=?_) (a':=?_) #[true,true,true,true,true,true,true,true,true,true,true,true,true,true,false,false,false] rfl rfl (any_of HT_.out xk') (fun _ _ _ h=>h) (Or.inl ⟨by rfl,?_⟩) ?_ ?_
                        rotate_left
                        ·
                         intro w';go_simp;with_reducible rfl
                        rotate_left
                        ·
                         simp only[Act.put,sa',sb',sc',i64_w,i32_w];rfl
                        refine take_ (i:=14) (N:=some 81) (v:=?_) (a':=?_) #[true,true,true,true,true,true,true,true,true,true,true,true,true,true,true,false,false] rfl rfl (take_ofW HT_.out HW_.out xk') (fun _ _ _ h=>h) (Or.inl ⟨by rfl,?_⟩) hHeld ?_ ?_
                        rotate_left
                        ·
                         rintro w' ⟨s0,s1,s2⟩
                         go_simp;with_reducible rfl
                        rotate_left
                        ·
                         simp only[Act.put,sa',sb',sc',i64_w,i32_w];rfl
                        refine pure_ (i:=15) (N:=some 82) (v:=?_) (a':=?_) #[true,true,true,true,true,true,true,true,true,true,true,true,true,true,true,true,false] rfl rfl (any_of HT_.out xk') (fun _ _ _ h=>h) (Or.inl ⟨by rfl,?_⟩) ?_ ?_
                        rotate_left
                        ·
                         intro w';go_simp;with_reducible rfl
                        rotate_left
                        ·
                         simp only[Act.put,sa',sb',sc',i64_w,i32_w];rfl
                        refine pure_ (i:=16) (N:=some 83) (v:=?_) (a':=?_) #[true,true,true,true,true,true,true,true,true,true,true,true,true,true,true,true,true] rfl rfl (any_of HT_.out xk') (fun _ _ _ h=>h) (Or.inl ⟨by rfl,?_⟩) ?_ ?_
                        rotate_left
                        ·
                         intro w';go_simp;with_reducible rfl
                        rotate_left
                        ·
                         simp only[Act.put,sa',sb',sc',i64_w,i32_w];rfl
                        refine done_ (done_of HT_.out xk') ?_
                        try go_wp2
                        go_roundg k2
                        case measure=>have:=HK1.out;have:=HK2.out;omega
                        case rel=>exact ⟨(y317),(x6_2),(wrap64 (x49_2+1)),xs',H',⟨by have:=HK1.out;have:=HK2.out;omega⟩,⟨kr' HO_4.out⟩,⟨kr' HO_5.out⟩,⟨kr' HO_6.out⟩,⟨kr' HO_25.out⟩,⟨by (with_reducible repeat (first|apply Kd.N_alloc|apply Kd.N_drewN|apply Kd.N_drew));exact Kd.N_mono HO_47.out (fun _ hk=>⟨hk.1,⟨hk.2.1,⟨hk.2.2.1,⟨hk.2.2.2.1,⟨hk.2.2.2.2.1,⟨hk.2.2.2.2.2.2.1,hk.2.2.2.2.2.2.2⟩⟩⟩⟩⟩⟩)⟩,⟨by (with_reducible repeat (first|apply ra'|apply rn'|apply rw'));exact Kd.R_mono HO_306000.out (fun _ hk=>trivial)⟩,⟨kk' BK274.out⟩,⟨kk' BK305.out⟩,⟨y2' GE274.out GE305.out⟩⟩
                      ·
                       rw[if_neg c69] at H;exact absurd H (by simp)
                    ·
                     rw[if_neg c52] at H;exact absurd H (by simp)
                   ·
                    rw[if_neg c50] at H;exact absurd H (by simp)
                  ·
                   rw[if_neg c49] at H;exact absurd H (by simp)
                 ·
                  rw[if_neg c48] at H;exact absurd H (by simp)
                ·
                 rw[if_neg c47] at H;exact absurd H (by simp)
               ·
                rw[if_neg c44] at H;exact absurd H (by simp)
              ·
               rw[if_neg c43] at H;exact absurd H (by simp)
             ·
              rw[if_neg c42] at H;have c42b0:decide (x49_2 < (t306.length:Int))=false:=df' c42;clear c42;have H':=am' H;clear H;go_wp2;go_roundg k2
              case measure=>have:=HK1.out;have:=HK2.out;omega
              case rel=>exact ⟨(x5_2),(x6_2),(wrap64 (x27_1+1)),xs',H',⟨by have:=HK1.out;have:=HK2.out;omega⟩,⟨kr' HO_4.out⟩,⟨kr' HO_5.out⟩,⟨kr' HO_6.out⟩,⟨kr' HO_25.out⟩,⟨kk' BK274.out⟩,⟨y2' GE274.out GE305.out⟩⟩
         ·
          rw[if_neg c25] at H;exact absurd H (by simp)
        ·
         rw[if_neg c24] at H;exact absurd H (by simp)
       ·
        rw[if_neg c23] at H;exact absurd H (by simp)
      ·
       rw[if_neg c22] at H;exact absurd H (by simp)
     ·
      rw[if_neg c21] at H;have c21b0:decide (x27_1 < (t288.length:Int))=false:=df' c21;clear c21;replace H:=Option.bind_eq_some_iff.mp H;obtain ⟨⟨t291,t294⟩,A960,H⟩:=H;replace H:((spec_seIndex.f k1 t291 t294).bind fun t295=>(if 0≤t295 then (if t295 < (x5_1.length:Int) then (if t295 < (x6_1.length:Int) then (some (rd x5_1 t295,rd x6_1 t295)) else (none)) else (none)) else (none)))=some (r1,r2):=H;have A96:=am' A960;clear A960;replace H:=Option.bind_eq_some_iff.mp H;obtain ⟨t295,A970,H⟩:=H;replace H:(if 0≤t295 then (if t295 < (x5_1.length:Int) then (if t295 < (x6_1.length:Int) then (some (rd x5_1 t295,rd x6_1 t295)) else (none)) else (none)) else (none))=some (r1,r2):=H;have A97:=am' A970;clear A970;by_cases c98:0≤t295
      ·
       rw[if_pos c98] at H;have c98b0:decide (0≤t295)=true:=dt' c98;clear c98;by_cases c99:t295 < (x5_1.length:Int)
       ·
        rw[if_pos c99] at H;have c99b0:decide (t295 < (x5_1.length:Int))=true:=dt' c99;clear c99;by_cases c100:t295 < (x6_1.length:Int)
        ·
         rw[if_pos c100] at H;have c100b0:decide (t295 < (x6_1.length:Int))=true:=dt' c100;clear c100;simp only[Option.some.injEq,Prod.mk.injEq] at H;obtain ⟨rfl,rfl⟩:=H;have hcz101_0:wr.cell? ⟨gb274,0,none⟩=some (.slice A0_0 l0_0.length c0_0):=(bc' BK274.out 0).trans rfl;have hcz101_1:wr.cell? ⟨gb274,1,none⟩=some (.int .i64 a0_1):=(bc' BK274.out 1).trans rfl;have hfz101_0:=bf' BK274.out 0;have hfz101_1:=bf' BK274.out 1
         try go_wp2_with (first|((with_reducible refine gate_callee (f:=26) rfl ?_);refine goesL_ (some 95) rfl rfl Try.func26 xk' rfl #[.agg #[.slice A0_0 l0_0.length c0_0, .int .i64 a0_1]] rfl xl' ?_;(with_reducible refine (spec_paFirst.calls _ _ l0_0 a0_1 t291 t294 _ ?side1 ?side2 A96.out).mono ?_);(case side1=>exact kc' (cb' HR0_0.out HB.out));(case side2=>exact HC0_0.out);rintro e w102 ⟨v292,rfl,ho0,hb⟩;refine ⟨_,rfl,?_⟩;have n0_:=am' (rb' (kr' HO_4.out) hb);have n1_:=am' (rb' (kr' HO_5.out) hb);have n2_:=am' (rb' (kr' HO_6.out) hb);have n3_:=am' (rb' (kr' HO_25.out) hb);have n4_:=am' (Kd.R_lower ho0 (bz' (yb' GE274.out)));have n5_:=am' (bb' (g:=gb274) (o := .cells #[.slice A0_0 l0_0.length c0_0, .int .i64 a0_1] 28 (0,0)) (kk' BK274.out) hb);have n6_:=am' (bt' (yb' GE274.out) hb);clear HO_4;clear HO_5;clear HO_6;clear HO_25;clear BK274;clear HB;have HO_4:=n0_;have HO_5:=n1_;have HO_6:=n2_;have HO_25:=n3_;have HO293:=n4_;have BK274:=n5_;have HB:=n6_;clear n0_ n1_ n2_ n3_ n4_ n5_ n6_;(try clear hb);(try clear hb2);(try clear hk);(try clear hi);(try clear ho0);obtain ⟨Ao103,co103,eo103⟩:=Kd.R_slice HO293.out;subst eo103)|((with_reducible refine gate_callee (f:=40) rfl ?_);refine goesL_ (some 96) rfl rfl Try.func40 xk' rfl #[.agg #[.slice Ao103 t291.length co103, .bool t294]] rfl xl' ?_;(with_reducible refine (spec_seIndex.calls k1 _ _ t291 t294 t295 _ ?side1 ?side2 A97.out).mono ?_);(case side1=>exact kc' ((Kd.R_reads' HO293.out).2.2));(case side2=>exact (Kd.R_reads' HO293.out).2.1);rintro e w104 ⟨rfl,hb⟩;refine ⟨_,rfl,?_⟩;have n0_:=am' (rb' (kr' HO_4.out) hb);have n1_:=am' (rb' (kr' HO_5.out) hb);have n2_:=am' (rb' (kr' HO_6.out) hb);have n3_:=am' (rb' (kr' HO_25.out) hb);have n4_:=am' (rb' (kr' HO293.out) hb);have n5_:=am' (bb' (g:=gb274) (o := .cells #[.slice A0_0 l0_0.length c0_0, .int .i64 a0_1] 28 (0,0)) (kk' BK274.out) hb);have n6_:=am' (bt' (yb' GE274.out) hb);clear HO_4;clear HO_5;clear HO_6;clear HO_25;clear HO293;clear BK274;clear HB;have HO_4:=n0_;have HO_5:=n1_;have HO_6:=n2_;have HO_25:=n3_;have HO293:=n4_;have BK274:=n5_;have HB:=n6_;clear n0_ n1_ n2_ n3_ n4_ n5_ n6_;(try clear hb);(try clear hb2);(try clear hk);(try clear hi)))
         have n0_:=am' (rw' HO_4.out);have n1_:=am' (rw' HO_5.out);have n2_:=am' (rw' HO_6.out);have n3_:=am' (rw' HO_25.out);have n4_:=am' (rw' HO293.out);have n5_:=am' (kd' BK274.out);have n6_:=am' (be' HB.out);clear HO_4;clear HO_5;clear HO_6;clear HO_25;clear HO293;clear BK274;clear HB;have HO_4:=n0_;have HO_5:=n1_;have HO_6:=n2_;have HO_25:=n3_;have HO293:=n4_;have BK274:=n5_;have HB:=n6_;clear n0_ n1_ n2_ n3_ n4_ n5_ n6_;obtain ⟨Ao106,co106,eo106⟩:=Kd.R_slice HO_5.out
         (first|subst eo106|(injection eo106 with f1_ f2_ f3_;have f4_:=f1_.symm;have f5_:=f3_.symm;clear f1_ f2_ f3_;subst f4_;subst f5_))
         have p296:0≤(t295:Int):=od' xa';have q296:t295 < (x5_1.length:Int):=od' xa';obtain ⟨ad296,e296,hx296_0⟩:=Kd.at_int (Kd.R_reads' HO_5.out).2.2 t295 p296 q296;cases e296;replace p296:=eq_true p296;replace q296:=eq_true q296;obtain ⟨Ao107,co107,eo107⟩:=Kd.R_slice HO_6.out
         (first|subst eo107|(injection eo107 with f1_ f2_ f3_;have f4_:=f1_.symm;have f5_:=f3_.symm;clear f1_ f2_ f3_;subst f4_;subst f5_))
         have p297:0≤(t295:Int):=od' xa';have q297:t295 < (x6_1.length:Int):=od' xa';obtain ⟨ad297,e297,hx297_0⟩:=Kd.at_int (Kd.R_reads' HO_6.out).2.2 t295 p297 q297;cases e297;replace p297:=eq_true p297;replace q297:=eq_true q297;refine start_ (n:=10) (S:=fun w'=>w'.cell? (ad296.add (t295).toNat)=some (.int .i64 (rd x5_1 t295))∧w'.cell? (ad297.add (t295).toNat)=some (.int .i64 (rd x6_1 t295))) (ds:=[]) #[false,false,false,false,false,false,false,false,false,false] xk' rfl rfl ⟨hx296_0,hx297_0⟩ (fun hHeld=>?_);refine with_tabW spec_seCount.tab19 spec_seCount.bits19 (fun HT_ HW_=>?_);generalize w104.drew=w105 at HO_4 HO_5 HO_6 HO_25 HO293 BK274 HB hx296_0 hx297_0 hHeld ⊢
         refine pure_ (i:=0) (N:=some 97) (v:=?_) (a':=?_) #[true,false,false,false,false,false,false,false,false,false] rfl rfl (any_of HT_.out xk') (fun _ _ _ h=>h) (Or.inl ⟨by rfl,?_⟩) ?_ ?_
         rotate_left
         ·
          intro w';go_simp;with_reducible rfl
         rotate_left
         ·
          simp only[Act.put,sa',sb',sc',i64_w,i32_w];rfl
         refine pure_ (i:=1) (N:=some 98) (v:=?_) (a':=?_) #[true,true,false,false,false,false,false,false,false,false] rfl rfl (any_of HT_.out xk') (fun _ _ _ h=>h) (Or.inl ⟨by rfl,?_⟩) ?_ ?_
         rotate_left
         ·
          intro w';go_simp;with_reducible rfl
         rotate_left
         ·
          simp only[Act.put,sa',sb',sc',i64_w,i32_w];rfl
         refine pure_ (i:=2) (N:=some 99) (v:=?_) (a':=?_) #[true,true,true,false,false,false,false,false,false,false] rfl rfl (any_of HT_.out xk') (fun _ _ _ h=>h) (Or.inl ⟨by rfl,?_⟩) ?_ ?_
         rotate_left
         ·
          intro w';go_simp;with_reducible rfl
         rotate_left
         ·
          simp only[Act.put,sa',sb',sc',i64_w,i32_w];rfl
         refine pure_ (i:=4) (N:=some 101) (v:=?_) (a':=?_) #[true,true,true,false,true,false,false,false,false,false] rfl rfl (any_of HT_.out xk') (fun _ _ _ h=>h) (Or.inl ⟨by rfl,?_⟩) ?_ ?_
         rotate_left
         ·
          intro w';go_simp;with_reducible rfl
         rotate_left
         ·
          simp only[Act.put,sa',sb',sc',i64_w,i32_w];rfl
         refine pure_ (i:=5) (N:=some 102) (v:=?_) (a':=?_) #[true,true,true,false,true,true,false,false,false,false] rfl rfl (any_of HT_.out xk') (fun _ _ _ h=>h) (Or.inl ⟨by rfl,?_⟩) ?_ ?_
         rotate_left
         ·
          intro w';go_simp;with_reducible rfl
         rotate_left
         ·
          simp only[Act.put,sa',sb',sc',i64_w,i32_w];rfl
         refine pure_ (i:=6) (N:=some 103) (v:=?_) (a':=?_) #[true,true,true,false,true,true,true,false,false,false] rfl rfl (any_of HT_.out xk') (fun _ _ _ h=>h) (Or.inl ⟨by rfl,?_⟩) ?_ ?_
         rotate_left
         ·
          intro w';go_simp;with_reducible rfl
         rotate_left
         ·
          simp only[Act.put,sa',sb',sc',i64_w,i32_w];rfl
         refine take_ (i:=3) (N:=some 100) (v:=?_) (a':=?_) #[true,true,true,true,true,true,true,false,false,false] rfl rfl (take_ofW HT_.out HW_.out xk') (fun _ _ _ h=>h) (Or.inl ⟨by rfl,?_⟩) hHeld ?_ ?_
         rotate_left
         ·
          rintro w' ⟨s0,s1⟩
          go_simp;with_reducible rfl
         rotate_left
         ·
          simp only[Act.put,sa',sb',sc',i64_w,i32_w];rfl
         refine pure_ (i:=8) (N:=some 2) (v:=?_) (a':=?_) #[true,true,true,true,true,true,true,false,true,false] rfl rfl (any_of HT_.out xk') (fun _ _ _ h=>h) (Or.inl ⟨by rfl,?_⟩) ?_ ?_
         rotate_left
         ·
          intro w';go_simp;with_reducible rfl
         rotate_left
         ·
          simp only[Act.put,sa',sb',sc',i64_w,i32_w];rfl
         refine take_ (i:=7) (N:=some 104) (v:=?_) (a':=?_) #[true,true,true,true,true,true,true,true,true,false] rfl rfl (take_ofW HT_.out HW_.out xk') (fun _ _ _ h=>h) (Or.inl ⟨by rfl,?_⟩) hHeld ?_ ?_
         rotate_left
         ·
          rintro w' ⟨s0,s1⟩
          go_simp;with_reducible rfl
         rotate_left
         ·
          simp only[Act.put,sa',sb',sc',i64_w,i32_w];rfl
         refine pure_ (i:=9) (N:=some 3) (v:=?_) (a':=?_) #[true,true,true,true,true,true,true,true,true,true] rfl rfl (any_of HT_.out xk') (fun _ _ _ h=>h) (Or.inl ⟨by rfl,?_⟩) ?_ ?_
         rotate_left
         ·
          intro w';go_simp;with_reducible rfl
         rotate_left
         ·
          simp only[Act.put,sa',sb',sc',i64_w,i32_w];rfl
         refine done_ (done_of HT_.out xk') ?_
         try go_wp2
         go_ret2
         exact ⟨by first|rfl|(simp[errW_none,errW_some] <;> rfl)|(simp[*,errW_none,errW_some] <;> rfl),yb' GE274.out⟩
        ·
         rw[if_neg c100] at H;exact absurd H (by simp)
       ·
        rw[if_neg c99] at H;exact absurd H (by simp)
      ·
       rw[if_neg c98] at H;exact absurd H (by simp)
  ·
   rw[if_neg c5] at H;exact absurd H (by simp)
 ·
  rw[if_neg c4] at H;exact absurd H (by simp)
end Go.Proofs.Ytihieplobgehaaa.C2
