import Derived.Test.YtihieplobgehaaaC2zx0
import Derived.Test.YtihieplobgehaaaC2zx1
import Derived.Test.YtihieplobgehaaaC2zx7
import Derived.Test.YtihieplobgehaaaC2zx9
import Derived.Test.YtihieplobgehaaaC2zAl
namespace Go.Proofs.Ytihieplobgehaaa.C2
open Go.RowKit Go.Proofs.YtihieplobgehaaaW.PrintWords Go.Proofs.YtihieplobgehaaaW.PrintLast Go.Proofs.YtihieplobgehaaaW.PrintMore Go.Proofs.Ytihieplobgehaaa.H
attribute [local go_sem] max2_int min2_int max_two min_two max_three min_three max_four min_four
set_option linter.unusedVariables false
set_option linter.unusedSimpArgs false
def spec_FewestOfBest.f (k:Nat) (l0_0:List Int) (a0_1:Int):Option (Int × Bool):=(spec_paGood.f k l0_0 a0_1).bind fun t326=>(if t326=true then ((spec_seLeast.f k l0_0 a0_1).bind fun t327=>(if t327 < 0 then (some (0,false)) else ((spec_seCount.f k l0_0 a0_1).bind fun bt328=>(some (bt328.2,true))))) else (some (0,false)))
set_option maxHeartbeats 8000000 in
set_option maxRecDepth 100000 in
theorem spec_FewestOfBest.calls (k:Nat) (A0_0:Option Addr) (c0_0:Nat) (l0_0:List Int) (a0_1:Int) (r1:Int) (r2:Bool) (w:World) (hr0_0:Kd.C (Kd.int .i64) w A0_0 l0_0.length l0_0) (hc0_0:l0_0.length≤c0_0) (h:spec_FewestOfBest.f k l0_0 a0_1=some (r1,r2)) :
  Calls Try.prog 6 #[.agg #[.slice A0_0 l0_0.length c0_0, .int .i64 a0_1]] w fun e w'=>e = .returned (.tuple #[.int .i64 r1, .bool r2])∧Below w.heap.size w w':=by
 have hu28:=Try.underlying28
 have HR0_0:=am' hr0_0
 have HC0_0:=am' hc0_0
 clear hr0_0 hc0_0;have HB:=am' (Below.refl w.heap.size w)
 have H:((spec_paGood.f k l0_0 a0_1).bind fun t326=>(if t326=true then ((spec_seLeast.f k l0_0 a0_1).bind fun t327=>(if t327 < 0 then (some (0,false)) else ((spec_seCount.f k l0_0 a0_1).bind fun bt328=>(some (bt328.2,true))))) else (some (0,false))))=some (r1,r2):=h
 clear h;replace H:=Option.bind_eq_some_iff.mp H
 obtain ⟨t326,A20,H⟩:=H
 replace H:(if t326=true then ((spec_seLeast.f k l0_0 a0_1).bind fun t327=>(if t327 < 0 then (some (0,false)) else ((spec_seCount.f k l0_0 a0_1).bind fun bt328=>(some (bt328.2,true))))) else (some (0,false)))=some (r1,r2):=H
 have A2:=am' A20
 clear A20;by_cases c3:t326=true
 ·
  subst c3;have H1:((spec_seLeast.f k l0_0 a0_1).bind fun t327=>(if t327 < 0 then (some (0,false)) else ((spec_seCount.f k l0_0 a0_1).bind fun bt328=>(some (bt328.2,true)))))=some (r1,r2):=by rw[if_pos rfl] at H;exact H
  clear H;have H:=H1;clear H1;replace H:=Option.bind_eq_some_iff.mp H;obtain ⟨t327,A40,H⟩:=H;replace H:(if t327 < 0 then (some (0,false)) else ((spec_seCount.f k l0_0 a0_1).bind fun bt328=>(some (bt328.2,true))))=some (r1,r2):=H;have A4:=am' A40;clear A40;by_cases c5:t327 < 0
  ·
   rw[if_pos c5] at H;have c5b0:decide (t327 < 0)=true:=dt' c5;clear c5;simp only[Option.some.injEq,Prod.mk.injEq] at H;obtain ⟨rfl,rfl⟩:=H;go_enter Try.func6,Try.ntmps6;go_wp2_with (first|((with_reducible refine gate_dst (N:=1) rfl ?_);refine box_event ?hg (N:=1) ?hd (cs:=#[.slice A0_0 l0_0.length c0_0, .int .i64 a0_1]) (t:=28) ?hr ?_;(case hd=>rfl);(case hg=>rfl);(case hr=>first|(go_simp;done)|(go_simp;rfl));intro gb325 hg w6 hbox hb;have n0_:=am' (bt' xb' hb);have n1_:=am' (hbox);have n2_:=am' ((by rw[hg];exact (bz' xb'):w.heap.size≤gb325));have n3_:=am' ((by rw[hg];exact (bz' xb'):w.heap.size≤gb325));clear HB;have HB:=n0_;have BK325:=n1_;have GW325:=n2_;have GE325:=n3_;clear n0_ n1_ n2_ n3_;clear hb hbox hg;have hcz7_0:w6.cell? ⟨gb325,0,none⟩=some (.slice A0_0 l0_0.length c0_0):=(bc' BK325.out 0).trans rfl;have hcz7_1:w6.cell? ⟨gb325,1,none⟩=some (.int .i64 a0_1):=(bc' BK325.out 1).trans rfl;have hfz7_0:=bf' BK325.out 0;have hfz7_1:=bf' BK325.out 1)|((with_reducible refine gate_callee (f:=17) rfl ?_);refine goesL_ (some 7) rfl rfl Try.func17 xk' rfl #[.agg #[.slice A0_0 l0_0.length c0_0, .int .i64 a0_1]] rfl xl' ?_;(with_reducible refine (spec_paGood.calls k _ _ l0_0 a0_1 true _ ?side1 ?side2 A2.out).mono ?_);(case side1=>exact kc' (cb' HR0_0.out HB.out));(case side2=>exact HC0_0.out);rintro e w8 ⟨rfl,hb⟩;refine ⟨_,rfl,?_⟩;have n0_:=am' (bb' (g:=gb325) (o := .cells #[.slice A0_0 l0_0.length c0_0, .int .i64 a0_1] 28 (0,0)) (kk' BK325.out) hb);have n1_:=am' (bt' (yb' GE325.out) hb);clear BK325;clear HB;have BK325:=n0_;have HB:=n1_;clear n0_ n1_;(try clear hb);(try clear hb2);(try clear hk);(try clear hi);have hcz9_0:w8.cell? ⟨gb325,0,none⟩=some (.slice A0_0 l0_0.length c0_0):=(bc' BK325.out 0).trans rfl;have hcz9_1:w8.cell? ⟨gb325,1,none⟩=some (.int .i64 a0_1):=(bc' BK325.out 1).trans rfl;have hfz9_0:=bf' BK325.out 0;have hfz9_1:=bf' BK325.out 1)|(go_at_call 18;(with_reducible refine (spec_seLeast.calls k _ _ l0_0 a0_1 t327 _ ?side1 ?side2 A4.out).mono ?_);(case side1=>exact kc' (cb' HR0_0.out HB.out));(case side2=>exact HC0_0.out);rintro e w10 ⟨rfl,hb⟩;have n0_:=am' (bb' (g:=gb325) (o := .cells #[.slice A0_0 l0_0.length c0_0, .int .i64 a0_1] 28 (0,0)) (kk' BK325.out) hb);have n1_:=am' (bt' (yb' GE325.out) hb);clear BK325;clear HB;have BK325:=n0_;have HB:=n1_;clear n0_ n1_;(try clear hb);(try clear hb2);(try clear hk);(try clear hi)))
   go_ret2
   exact ⟨by first|rfl|(simp[errW_none,errW_some] <;> rfl)|(simp[*,errW_none,errW_some] <;> rfl),yb' GE325.out⟩
  ·
   rw[if_neg c5] at H;have c5b0:decide (t327 < 0)=false:=df' c5;clear c5;replace H:=Option.bind_eq_some_iff.mp H;obtain ⟨⟨t328,t329⟩,A110,H⟩:=H;replace H:(some (t329,true))=some (r1,r2):=H;have A11:=am' A110;clear A110;simp only[Option.some.injEq,Prod.mk.injEq] at H;obtain ⟨rfl,rfl⟩:=H;go_enter Try.func6,Try.ntmps6;go_wp2_with (first|((with_reducible refine gate_dst (N:=1) rfl ?_);refine box_event ?hg (N:=1) ?hd (cs:=#[.slice A0_0 l0_0.length c0_0, .int .i64 a0_1]) (t:=28) ?hr ?_;(case hd=>rfl);(case hg=>rfl);(case hr=>first|(go_simp;done)|(go_simp;rfl));intro gb325 hg w12 hbox hb;have n0_:=am' (bt' xb' hb);have n1_:=am' (hbox);have n2_:=am' ((by rw[hg];exact (bz' xb'):w.heap.size≤gb325));have n3_:=am' ((by rw[hg];exact (bz' xb'):w.heap.size≤gb325));clear HB;have HB:=n0_;have BK325:=n1_;have GW325:=n2_;have GE325:=n3_;clear n0_ n1_ n2_ n3_;clear hb hbox hg;have hcz13_0:w12.cell? ⟨gb325,0,none⟩=some (.slice A0_0 l0_0.length c0_0):=(bc' BK325.out 0).trans rfl;have hcz13_1:w12.cell? ⟨gb325,1,none⟩=some (.int .i64 a0_1):=(bc' BK325.out 1).trans rfl;have hfz13_0:=bf' BK325.out 0;have hfz13_1:=bf' BK325.out 1)|((with_reducible refine gate_callee (f:=17) rfl ?_);refine goesL_ (some 7) rfl rfl Try.func17 xk' rfl #[.agg #[.slice A0_0 l0_0.length c0_0, .int .i64 a0_1]] rfl xl' ?_;(with_reducible refine (spec_paGood.calls k _ _ l0_0 a0_1 true _ ?side1 ?side2 A2.out).mono ?_);(case side1=>exact kc' (cb' HR0_0.out HB.out));(case side2=>exact HC0_0.out);rintro e w14 ⟨rfl,hb⟩;refine ⟨_,rfl,?_⟩;have n0_:=am' (bb' (g:=gb325) (o := .cells #[.slice A0_0 l0_0.length c0_0, .int .i64 a0_1] 28 (0,0)) (kk' BK325.out) hb);have n1_:=am' (bt' (yb' GE325.out) hb);clear BK325;clear HB;have BK325:=n0_;have HB:=n1_;clear n0_ n1_;(try clear hb);(try clear hb2);(try clear hk);(try clear hi);have hcz15_0:w14.cell? ⟨gb325,0,none⟩=some (.slice A0_0 l0_0.length c0_0):=(bc' BK325.out 0).trans rfl;have hcz15_1:w14.cell? ⟨gb325,1,none⟩=some (.int .i64 a0_1):=(bc' BK325.out 1).trans rfl;have hfz15_0:=bf' BK325.out 0;have hfz15_1:=bf' BK325.out 1)|(go_at_call 18;(with_reducible refine (spec_seLeast.calls k _ _ l0_0 a0_1 t327 _ ?side1 ?side2 A4.out).mono ?_);(case side1=>exact kc' (cb' HR0_0.out HB.out));(case side2=>exact HC0_0.out);rintro e w16 ⟨rfl,hb⟩;have n0_:=am' (bb' (g:=gb325) (o := .cells #[.slice A0_0 l0_0.length c0_0, .int .i64 a0_1] 28 (0,0)) (kk' BK325.out) hb);have n1_:=am' (bt' (yb' GE325.out) hb);clear BK325;clear HB;have BK325:=n0_;have HB:=n1_;clear n0_ n1_;(try clear hb);(try clear hb2);(try clear hk);(try clear hi);have hcz17_0:w16.cell? ⟨gb325,0,none⟩=some (.slice A0_0 l0_0.length c0_0):=(bc' BK325.out 0).trans rfl;have hcz17_1:w16.cell? ⟨gb325,1,none⟩=some (.int .i64 a0_1):=(bc' BK325.out 1).trans rfl;have hfz17_0:=bf' BK325.out 0;have hfz17_1:=bf' BK325.out 1)|((with_reducible refine gate_callee (f:=19) rfl ?_);refine goesL_ (some 16) rfl rfl Try.func19 xk' rfl #[.agg #[.slice A0_0 l0_0.length c0_0, .int .i64 a0_1]] rfl xl' ?_;(with_reducible refine (spec_seCount.calls k _ _ l0_0 a0_1 t328 t329 _ ?side1 ?side2 A11.out).mono ?_);(case side1=>exact kc' (cb' HR0_0.out HB.out));(case side2=>exact HC0_0.out);rintro e w18 ⟨rfl,hb⟩;refine ⟨_,rfl,?_⟩;have n0_:=am' (bb' (g:=gb325) (o := .cells #[.slice A0_0 l0_0.length c0_0, .int .i64 a0_1] 28 (0,0)) (kk' BK325.out) hb);have n1_:=am' (bt' (yb' GE325.out) hb);clear BK325;clear HB;have BK325:=n0_;have HB:=n1_;clear n0_ n1_;(try clear hb);(try clear hb2);(try clear hk);(try clear hi)))
   go_ret2
   exact ⟨by first|rfl|(simp[errW_none,errW_some] <;> rfl)|(simp[*,errW_none,errW_some] <;> rfl),yb' GE325.out⟩
 ·
  replace c3:=Bool.eq_false_iff.mpr c3;subst c3;have H1:(some (0,false))=some (r1,r2):=by rw[if_neg (show ¬ (false=true) by decide)] at H;exact H
  clear H;have H:=H1;clear H1;simp only[Option.some.injEq,Prod.mk.injEq] at H;obtain ⟨rfl,rfl⟩:=H;go_enter Try.func6,Try.ntmps6;go_wp2_with (first|((with_reducible refine gate_dst (N:=1) rfl ?_);refine box_event ?hg (N:=1) ?hd (cs:=#[.slice A0_0 l0_0.length c0_0, .int .i64 a0_1]) (t:=28) ?hr ?_;(case hd=>rfl);(case hg=>rfl);(case hr=>first|(go_simp;done)|(go_simp;rfl));intro gb325 hg w19 hbox hb;have n0_:=am' (bt' xb' hb);have n1_:=am' (hbox);have n2_:=am' ((by rw[hg];exact (bz' xb'):w.heap.size≤gb325));have n3_:=am' ((by rw[hg];exact (bz' xb'):w.heap.size≤gb325));clear HB;have HB:=n0_;have BK325:=n1_;have GW325:=n2_;have GE325:=n3_;clear n0_ n1_ n2_ n3_;clear hb hbox hg;have hcz20_0:w19.cell? ⟨gb325,0,none⟩=some (.slice A0_0 l0_0.length c0_0):=(bc' BK325.out 0).trans rfl;have hcz20_1:w19.cell? ⟨gb325,1,none⟩=some (.int .i64 a0_1):=(bc' BK325.out 1).trans rfl;have hfz20_0:=bf' BK325.out 0;have hfz20_1:=bf' BK325.out 1)|((with_reducible refine gate_callee (f:=17) rfl ?_);refine goesL_ (some 7) rfl rfl Try.func17 xk' rfl #[.agg #[.slice A0_0 l0_0.length c0_0, .int .i64 a0_1]] rfl xl' ?_;(with_reducible refine (spec_paGood.calls k _ _ l0_0 a0_1 false _ ?side1 ?side2 A2.out).mono ?_);(case side1=>exact kc' (cb' HR0_0.out HB.out));(case side2=>exact HC0_0.out);rintro e w21 ⟨rfl,hb⟩;refine ⟨_,rfl,?_⟩;have n0_:=am' (bb' (g:=gb325) (o := .cells #[.slice A0_0 l0_0.length c0_0, .int .i64 a0_1] 28 (0,0)) (kk' BK325.out) hb);have n1_:=am' (bt' (yb' GE325.out) hb);clear BK325;clear HB;have BK325:=n0_;have HB:=n1_;clear n0_ n1_;(try clear hb);(try clear hb2);(try clear hk);(try clear hi)));go_ret2
  exact ⟨by first|rfl|(simp[errW_none,errW_some] <;> rfl)|(simp[*,errW_none,errW_some] <;> rfl),yb' GE325.out⟩
def laws_toIntS.l0:Nat→List Int→List Int→Int→Option (List Int)
 | 0,_,_,_=>none
 | k+1,x0,x3,x4=>if x4 < (x0.length:Int) then (if 0≤x4 then (if x4 < (x3.length:Int) then (laws_toIntS.l0 k x0 (x3.set (x4:Int).toNat (rd x0 x4)) (wrap64 (x4+1))) else (none)) else (none)) else (some x3)
def laws_toIntS.f (k:Nat) (l0:List Int):Option (List Int):=if 0≤(l0.length:Int) then (if ((l0.length:Int):Int).toNat≤35184372088832 then (laws_toIntS.l0 k l0 (List.replicate ((l0.length:Int):Int).toNat 0) 0) else (none)) else (none)
set_option maxHeartbeats 8000000 in
set_option maxRecDepth 100000 in
theorem laws_toIntS.calls (k:Nat) (A0:Option Addr) (c0:Nat) (l0:List Int) (r:List Int) (w:World) (hr0:Kd.C (Kd.int .i64) w A0 l0.length l0) (hc0:l0.length≤c0) (h:laws_toIntS.f k l0=some r) :
  Calls Try.prog 20 #[.slice A0 l0.length c0] w fun e w'=>∃ v0_:Value,e = .returned (v0_)∧Kd.R (Kd.int .i64) 3 w' w.heap.size (fun _=>True) v0_ r∧Below w.heap.size w w':=by
 have HR0:=am' hr0
 have HC0:=am' hc0
 clear hr0 hc0;have HB:=am' (Below.refl w.heap.size w)
 have H:(if 0≤(l0.length:Int) then (if ((l0.length:Int):Int).toNat≤35184372088832 then (laws_toIntS.l0 k l0 (List.replicate ((l0.length:Int):Int).toNat 0) 0) else (none)) else (none))=some r:=h
 clear h;by_cases c2:0≤(l0.length:Int)
 ·
  rw[if_pos c2] at H;have c2b0:=eq_true c2;have c2b1:decide (0≤(l0.length:Int))=true:=dt' c2;clear c2;by_cases c3:((l0.length:Int):Int).toNat≤35184372088832
  ·
   rw[if_pos c3] at H;have c3b0:=eq_true c3;have c3b1:decide (((l0.length:Int):Int).toNat≤35184372088832)=true:=dt' c3;clear c3;obtain ⟨y330,hy330⟩:∃ y_:List Int,y_=(List.replicate ((l0.length:Int):Int).toNat 0):=⟨_,rfl⟩
   replace H:(laws_toIntS.l0 k l0 y330 0)=some r:=by first|(rw[hy330];with_reducible exact H)|(have H2_:=(Option.bind_some _ _).symm.trans H;rw[hy330];with_reducible exact H2_)|(have H2_:=(Option.bind_some _ _).symm.trans H;with_reducible exact H2_)|with_reducible exact H|(rw[hy330];exact H)|exact H
   have Ny330:=am' hy330;clear hy330;have H':=am' H;clear H;go_enter Try.func20,Try.ntmps20;go_wp2_with (first|((with_reducible refine gate_dst (N:=7) rfl ?_);refine Kd.R_make (Kd.int .i64) _ 3 rfl (N:=7) rfl 22 _ _ rfl (l0.length:Int) rfl rfl Try.underlying22 (.int .i64 0) 8 info3 rfl (by decide) (by omega) 0 (ok:=fun _=>True) (okp:=fun _=>True) rfl (fun _ hk=>hk) trivial (od' xa') (Nat.le_trans (Nat.mul_le_mul_right _ (od' xa':(l0.length:Int).toNat≤35184372088832)) (by omega)) (Below.refl _ _) (Nat.le_refl _) ?_;intro v331 w4 ho5 hb hg_ hnew_;clear hg_ hnew_;(first|rw[← Ny330.out] at ho5|(simp only[Int.reduceToNat] at ho5;rw[← Ny330.out] at ho5));have n0_:=am' (Kd.R_lower ho5 (bz' xb'));have n1_:=am' (bt' xb' hb);clear HB;have HO332:=n0_;have HB:=n1_;clear n0_ n1_;clear hb ho5));go_loopg [4] k (fun kq v4 w'=>∃ (x3_1:List Int) (x4_1:Int),v4 = .int .i64 x4_1∧Aside0 (laws_toIntS.l0 kq l0 x3_1 x4_1=some r)∧Aside0 (kq≤k)∧Aside0 (Kd.R (Kd.int .i64) 3 w' w.heap.size (fun _=>True) v331 x3_1)∧Aside0 (Below w.heap.size w w'))
   case atStart=>exact ⟨(y330),(0),xs',H',⟨Nat.le_refl _⟩,⟨kr' HO332.out⟩,⟨xb'⟩⟩
   case round =>
    clear H';try clear c2
    try clear c2b0
    try clear c2b1
    try clear p2
    try clear c3
    try clear c3b0
    try clear c3b1
    obtain ⟨x3_1,x4_1,rfl,HA,HK1,HO_3,HB⟩:=hrel;cases gk with
    | zero=>exact absurd HA.out (by simp[laws_toIntS.l0])
    | succ k1 =>
     have H:=HA.out;clear HA;simp only[laws_toIntS.l0] at H;by_cases c6:x4_1 < (l0.length:Int)
     ·
      rw[if_pos c6] at H;have c6b0:decide (x4_1 < (l0.length:Int))=true:=dt' c6;clear c6;by_cases c7:0≤x4_1
      ·
       rw[if_pos c7] at H;have c7b0:decide (0≤x4_1)=true:=dt' c7;clear c7;by_cases c8:x4_1 < (x3_1.length:Int)
       ·
        rw[if_pos c8] at H;have c8b0:decide (x4_1 < (x3_1.length:Int))=true:=dt' c8;clear c8;obtain ⟨y334,hy334⟩:∃ y_:List Int,y_=(x3_1.set (x4_1:Int).toNat (rd l0 x4_1)):=⟨_,rfl⟩
        replace H:(laws_toIntS.l0 k1 l0 y334 (wrap64 (x4_1+1)))=some r:=by first|(rw[hy334];with_reducible exact H)|(have H2_:=(Option.bind_some _ _).symm.trans H;rw[hy334];with_reducible exact H2_)|(have H2_:=(Option.bind_some _ _).symm.trans H;with_reducible exact H2_)|with_reducible exact H|(rw[hy334];exact H)|exact H
        have Ny334:=am' hy334;clear hy334;have H':=am' H;clear H;have p333:0≤(x4_1:Int):=od' xa';have q333:x4_1 < (l0.length:Int):=od' xa';obtain ⟨ad333,e333,hx333_0⟩:=Kd.at_int HR0.out x4_1 p333 q333;cases e333;replace hx333_0:=(HB.out.cell (bl' w _ hx333_0)).trans hx333_0;replace p333:=eq_true p333;replace q333:=eq_true q333;have p9:0≤(x4_1:Int):=od' xa';have q9:(x4_1:Int) < ((x3_1.length:Int):Int):=od' xa';obtain ⟨go9,co9,eo9,gb9,gl9,cl9,HG9⟩:=Kd.R_form HO_3.out (by omega)
        (first|cases eo9|(injection eo9 with ea_ en_ ec_;(first|subst ea_|(injection ea_ with ea_;subst ea_));subst ec_;clear en_))
        have GB9:=am' gb9;have GG9:=am' HG9;clear gb9 gl9 HG9;obtain ⟨hx9_0,hf9_0⟩:=Kd.R_celln 0 HO_3.out (x4_1:Int) p9 q9;replace p9:=eq_true p9;replace q9:=eq_true q9;have HP10:=Kd.R_putg HO_3.out (x4_1:Int) (rd l0 x4_1);go_wp2_with (first|((with_reducible refine gate_store (t:=3) (p:=20) rfl ?_);refine store_event (t:=3) (p:=20) (v:=?vo_w11) (w1:=(wr.setCell ⟨go9,(x4_1:Int).toNat,none⟩ (.int .i64 (rd l0 x4_1)))) ?hg ?ho ?hn ?hr ?_;(case ho=>rfl);(case hg=>rfl);(case hn=>rfl);(case hr=>first|(go_simp;done)|(go_simp;rfl));intro w11 hw;have hg:wr.grownBy w11 (some go9):=(by rw[hw];exact HP10.2);have hp_:Kd.R (Kd.int .i64) 3 w11 w.heap.size (fun _=>True) (.slice (some ⟨go9,0,none⟩) x3_1.length co9) y334:=(by rw[hw,Ny334.out];exact HP10.1);clear HP10;have n0_:=am' (hp_);have n1_:=am' ((by rw[hw];exact bs' (HB.out) GB9.out:Below w.heap.size w w11));clear HO_3;clear HB;have HO_3:=n0_;have HB:=n1_;clear n0_ n1_;clear hg hw hp_));go_roundg k1
        case measure=>have:=HK1.out;omega
        case rel=>exact ⟨(y334),(wrap64 (x4_1+1)),xs',H',⟨by have:=HK1.out;omega⟩,⟨kr' HO_3.out⟩,⟨xb'⟩⟩
       ·
        rw[if_neg c8] at H;exact absurd H (by simp)
      ·
       rw[if_neg c7] at H;exact absurd H (by simp)
     ·
      rw[if_neg c6] at H;have c6b0:decide (x4_1 < (l0.length:Int))=false:=df' c6;clear c6;obtain rfl:=os' H;go_wp2;go_ret
      exact ⟨_,by first|rfl|(simp[errW_none,errW_some] <;> rfl)|(simp[*,errW_none,errW_some] <;> rfl),kr' HO_3.out,xb'⟩
  ·
   rw[if_neg c3] at H;exact absurd H (by simp)
 ·
  rw[if_neg c2] at H;exact absurd H (by simp)
def laws_toParty.f (k:Nat) (l0_0:List Int) (a0_1:Int):Option (List Int × Int):=(laws_toIntS.f k l0_0).bind fun t338=>(some (t338,a0_1))
set_option maxHeartbeats 8000000 in
set_option maxRecDepth 100000 in
theorem laws_toParty.calls (k:Nat) (A0_0:Option Addr) (c0_0:Nat) (l0_0:List Int) (a0_1:Int) (r1:List Int) (r2:Int) (w:World) (hr0_0:Kd.C (Kd.int .i64) w A0_0 l0_0.length l0_0) (hc0_0:l0_0.length≤c0_0) (h:laws_toParty.f k l0_0 a0_1=some (r1,r2)) :
  Calls Try.prog 7 #[.agg #[.slice A0_0 l0_0.length c0_0, .int .i64 a0_1]] w fun e w'=>∃ v0_:Value,e = .returned (.agg #[v0_, .int .i64 r2])∧Kd.R (Kd.int .i64) 3 w' w.heap.size (fun _=>True) v0_ r1∧Below w.heap.size w w':=by
 have hu24:=Try.underlying24
 have hu28:=Try.underlying28
 have HR0_0:=am' hr0_0
 have HC0_0:=am' hc0_0
 clear hr0_0 hc0_0;have HB:=am' (Below.refl w.heap.size w)
 have H:((laws_toIntS.f k l0_0).bind fun t338=>(some (t338,a0_1)))=some (r1,r2):=h
 clear h;replace H:=Option.bind_eq_some_iff.mp H
 obtain ⟨t338,A20,H⟩:=H
 replace H:(some (t338,a0_1))=some (r1,r2):=H
 have A2:=am' A20
 clear A20;simp only[Option.some.injEq,Prod.mk.injEq] at H
 obtain ⟨rfl,rfl⟩:=H
 go_enter Try.func7,Try.ntmps7
 go_wp2_with (first|((with_reducible refine gate_dst (N:=1) rfl ?_);refine box_event ?hg (N:=1) ?hd (cs:=#[.slice A0_0 l0_0.length c0_0, .int .i64 a0_1]) (t:=24) ?hr ?_;(case hd=>rfl);(case hg=>rfl);(case hr=>first|(go_simp;done)|(go_simp;rfl));intro gb335 hg w3 hbox hb;have n0_:=am' (bt' xb' hb);have n1_:=am' (hbox);have n2_:=am' ((by rw[hg];exact (bz' xb'):w.heap.size≤gb335));have n3_:=am' ((by rw[hg];exact (bz' xb'):w.heap.size≤gb335));clear HB;have HB:=n0_;have BK335:=n1_;have GW335:=n2_;have GE335:=n3_;clear n0_ n1_ n2_ n3_;clear hb hbox hg)|((with_reducible refine gate_dst (N:=2) rfl ?_);refine box_event ?hg (N:=2) ?hd (cs:=#[.slice none 0 0, .int .i64 0]) (t:=28) ?hr ?_;(case hd=>rfl);(case hg=>rfl);(case hr=>first|(go_simp;done)|(go_simp;rfl));intro gb336 hg w4 hbox hb;have n0_:=am' (bb' (g:=gb335) (o := .cells #[.slice A0_0 l0_0.length c0_0, .int .i64 a0_1] 24 (0,0)) (kk' BK335.out) hb);have n1_:=am' (bt' (yb' GE335.out) hb);have n2_:=am' (hbox);have n3_:=am' ((by rw[hg];exact (bz' (yb' GE335.out)):w.heap.size≤gb336));have n4_:=am' ((by rw[hg];exact (bz' (yb' GE335.out)):w.heap.size≤gb336));have n5_:=am' ((by rw[hg];exact Nat.ne_of_lt (blk_lt (g:=gb335) (o := .cells #[.slice A0_0 l0_0.length c0_0, .int .i64 a0_1] 24 (0,0)) (kk' BK335.out)):gb335≠gb336));have n6_:=am' ((by rw[hg];exact Nat.ne_of_gt (blk_lt (g:=gb335) (o := .cells #[.slice A0_0 l0_0.length c0_0, .int .i64 a0_1] 24 (0,0)) (kk' BK335.out)):gb336≠gb335));clear BK335;clear HB;have BK335:=n0_;have HB:=n1_;have BK336:=n2_;have GW336:=n3_;have GE336:=n4_;have NB335_336:=n5_;have NB336_335:=n6_;clear n0_ n1_ n2_ n3_ n4_ n5_ n6_;clear hb hbox hg)|((with_reducible refine gate_dst (N:=3) rfl ?_);refine box_event ?hg (N:=3) ?hd (cs:=#[.slice none 0 0, .int .i64 0]) (t:=28) ?hr ?_;(case hd=>rfl);(case hg=>rfl);(case hr=>first|(go_simp;done)|(go_simp;rfl));intro gb337 hg w5 hbox hb;have n0_:=am' (bb' (g:=gb335) (o := .cells #[.slice A0_0 l0_0.length c0_0, .int .i64 a0_1] 24 (0,0)) (kk' BK335.out) hb);have n1_:=am' (bb' (g:=gb336) (o := .cells #[.slice none 0 0, .int .i64 0] 28 (0,0)) (kk' BK336.out) hb);have n2_:=am' (bt' (y2' GE335.out GE336.out) hb);have n3_:=am' (hbox);have n4_:=am' ((by rw[hg];exact (bz' (y2' GE335.out GE336.out)):w.heap.size≤gb337));have n5_:=am' ((by rw[hg];exact (bz' (y2' GE335.out GE336.out)):w.heap.size≤gb337));have n6_:=am' ((by rw[hg];exact Nat.ne_of_lt (blk_lt (g:=gb335) (o := .cells #[.slice A0_0 l0_0.length c0_0, .int .i64 a0_1] 24 (0,0)) (kk' BK335.out)):gb335≠gb337));have n7_:=am' ((by rw[hg];exact Nat.ne_of_gt (blk_lt (g:=gb335) (o := .cells #[.slice A0_0 l0_0.length c0_0, .int .i64 a0_1] 24 (0,0)) (kk' BK335.out)):gb337≠gb335));have n8_:=am' ((by rw[hg];exact Nat.ne_of_lt (blk_lt (g:=gb336) (o := .cells #[.slice none 0 0, .int .i64 0] 28 (0,0)) (kk' BK336.out)):gb336≠gb337));have n9_:=am' ((by rw[hg];exact Nat.ne_of_gt (blk_lt (g:=gb336) (o := .cells #[.slice none 0 0, .int .i64 0] 28 (0,0)) (kk' BK336.out)):gb337≠gb336));clear BK335;clear BK336;clear HB;have BK335:=n0_;have BK336:=n1_;have HB:=n2_;have BK337:=n3_;have GW337:=n4_;have GE337:=n5_;have NB335_337:=n6_;have NB337_335:=n7_;have NB336_337:=n8_;have NB337_336:=n9_;clear n0_ n1_ n2_ n3_ n4_ n5_ n6_ n7_ n8_ n9_;clear hb hbox hg;have hnb6:=NB335_336.out;have hnc6:=NB336_335.out;have hnb7:=NB335_337.out;have hnc7:=NB337_335.out;have hcz8_0:w5.cell? ⟨gb335,0,none⟩=some (.slice A0_0 l0_0.length c0_0):=(bc' BK335.out 0).trans rfl;have hcz8_1:w5.cell? ⟨gb335,1,none⟩=some (.int .i64 a0_1):=(bc' BK335.out 1).trans rfl;have hfz8_0:=bf' BK335.out 0;have hfz8_1:=bf' BK335.out 1)|((with_reducible refine gate_callee (f:=20) rfl ?_);refine goesL_ (some 6) rfl rfl Try.func20 xk' rfl #[.slice A0_0 l0_0.length c0_0] rfl xl' ?_;(with_reducible refine (laws_toIntS.calls k _ _ l0_0 t338 _ ?side1 ?side2 A2.out).mono ?_);(case side1=>exact kc' (cb' HR0_0.out HB.out));(case side2=>exact HC0_0.out);rintro e w9 ⟨v339,rfl,ho0,hb⟩;refine ⟨_,rfl,?_⟩;have n0_:=am' (Kd.R_lower ho0 (bz' (y3' GE335.out GE336.out GE337.out)));have n1_:=am' (bb' (g:=gb335) (o := .cells #[.slice A0_0 l0_0.length c0_0, .int .i64 a0_1] 24 (0,0)) (kk' BK335.out) hb);have n2_:=am' (bb' (g:=gb336) (o := .cells #[.slice none 0 0, .int .i64 0] 28 (0,0)) (kk' BK336.out) hb);have n3_:=am' (bb' (g:=gb337) (o := .cells #[.slice none 0 0, .int .i64 0] 28 (0,0)) (kk' BK337.out) hb);have n4_:=am' (bt' (y3' GE335.out GE336.out GE337.out) hb);clear BK335;clear BK336;clear BK337;clear HB;have HO340:=n0_;have BK335:=n1_;have BK336:=n2_;have BK337:=n3_;have HB:=n4_;clear n0_ n1_ n2_ n3_ n4_;(try clear hb);(try clear hb2);(try clear hk);(try clear hi);(try clear ho0);obtain ⟨Ao10,co10,eo10⟩:=Kd.R_slice HO340.out;subst eo10;have hnb11:=NB337_336.out;have hnc11:=NB336_337.out;have hcz12_0:w9.cell? ⟨gb337,0,none⟩=some (.slice none 0 0):=(bc' BK337.out 0).trans rfl;have hcz12_1:w9.cell? ⟨gb337,1,none⟩=some (.int .i64 0):=(bc' BK337.out 1).trans rfl;have hfz12_0:=bf' BK337.out 0;have hfz12_1:=bf' BK337.out 1;have hcz13_0:w9.cell? ⟨gb335,0,none⟩=some (.slice A0_0 l0_0.length c0_0):=(bc' BK335.out 0).trans rfl;have hcz13_1:w9.cell? ⟨gb335,1,none⟩=some (.int .i64 a0_1):=(bc' BK335.out 1).trans rfl;have hfz13_0:=bf' BK335.out 0;have hfz13_1:=bf' BK335.out 1;have hcz14_0:w9.cell? ⟨gb336,0,none⟩=some (.slice none 0 0):=(bc' BK336.out 0).trans rfl;have hcz14_1:w9.cell? ⟨gb336,1,none⟩=some (.int .i64 0):=(bc' BK336.out 1).trans rfl;have hfz14_0:=bf' BK336.out 0;have hfz14_1:=bf' BK336.out 1))
 refine bodyPost_ret (results_cell_row rfl _ _ gb336 28 #[.slice Ao10 t338.length co10, .int .i64 a0_1] (0,0) _ rfl (by (with_reducible repeat (first|refine kn' ?_ _|refine kd' ?_|refine ka' ?_ _));refine blk_put (cs:=#[.slice Ao10 t338.length co10, .int .i64 0]) ?_ 1 _ rfl;(with_reducible repeat (first|refine kn' ?_ _|refine kd' ?_|refine ka' ?_ _));refine blk_put (cs:=#[.slice none 0 0, .int .i64 0]) ?_ 0 _ rfl;(with_reducible repeat (first|refine kn' ?_ _|refine kd' ?_|refine ka' ?_ _));refine blk_far ?_ NB336_337.out _;(with_reducible repeat (first|refine kn' ?_ _|refine kd' ?_|refine ka' ?_ _));refine blk_far ?_ NB336_337.out _;(with_reducible repeat (first|refine kn' ?_ _|refine kd' ?_|refine ka' ?_ _));exact BK336.out) Try.underlying28 rfl xk') rfl ?_
 exact ⟨_,by first|rfl|(simp[errW_none,errW_some] <;> rfl)|(simp[*,errW_none,errW_some] <;> rfl),by (with_reducible repeat (first|apply ra'|apply rn'|apply rw'));exact Kd.R_mono (Kd.R_far (p:=⟨gb336,1,none⟩) (Kd.R_far (p:=⟨gb336,0,none⟩) (Kd.R_far (p:=⟨gb337,1,none⟩) (Kd.R_far (p:=⟨gb337,0,none⟩) (Kd.R_types (Kd.R_types HO340.out BK337.out (by decide)) BK336.out (by decide)) (fun _ hk=>hk.1.2) (.slice Ao10 t338.length co10)) (fun _ hk=>hk.1.2) (.int .i64 a0_1)) (fun _ hk=>hk.2) (.slice Ao10 t338.length co10)) (fun _ hk=>hk.2) (.int .i64 a0_1)) (fun _ hk=>trivial),y3' GE335.out GE336.out GE337.out⟩
def impl_in.f (a0:Int) (a1:Int) (a2:Int):Option (Bool):=if a1≤a0 then (some (decide (a0≤a2))) else (some false)
set_option maxHeartbeats 8000000 in
set_option maxRecDepth 100000 in
theorem impl_in.calls (a0:Int) (a1:Int) (a2:Int) (r:Bool) (w:World) (h:impl_in.f a0 a1 a2=some r) :
  Calls Try.prog 46 #[.int .i64 a0, .int .i64 a1, .int .i64 a2] w fun e w'=>e = .returned (.bool r)∧Drawn0 w w':=by
 have H:(if a1≤a0 then (some (decide (a0≤a2))) else (some false))=some r:=h
 clear h;by_cases c4:a1≤a0
 ·
  rw[if_pos c4] at H;have c4b0:decide (a1≤a0)=true:=dt' c4;clear c4;obtain rfl:=os' H;go_enter Try.func46,Try.ntmps46;go_wp2;go_ret
  exact ⟨xs',by repeat (first|exact Drawn0.refl _|apply Drawn0.step)⟩
 ·
  rw[if_neg c4] at H;have c4b0:decide (a1≤a0)=false:=df' c4;clear c4;obtain rfl:=os' H;go_enter Try.func46,Try.ntmps46;go_wp2;go_ret
  exact ⟨xs',by repeat (first|exact Drawn0.refl _|apply Drawn0.step)⟩
def PredOn (g:Nat) (lb:Array Value) (p:Int→Bool) (xs:List Int) (w:World):Prop :=
 ∀ x,x ∈ xs→∀ W:World,Below w.heap.size w W→Calls Try.prog g (#[.int .i64 x] ++ lb) W fun e w'=>e = .returned (.bool (p x))∧Below W.heap.size W w'
set_option maxHeartbeats 2000000 in
set_option maxRecDepth 100000 in
theorem IndexFunc_any (g:Nat) (lb:Array Value) (p:Int→Bool) (eg:∀ args w,(callFunc g args).run Try.prog w = .ok (.enter g args) w) (A0:Option Addr) (c0:Nat) (xs:List Int) (w:World) (hr:Kd.C (Kd.int .i64) w A0 xs.length xs) (hl:xs.length≤c0) (hbig:xs.length≤9223372036854775807)
  (hp:PredOn g lb p xs w) :
  Calls Try.prog 73 #[.slice A0 xs.length c0, .func (.func g) #[] lb] w fun e w'=>e = .returned (.int .i64 (idxF p xs))∧Below w.heap.size w w':=by
 have HP:=am' hp
 have HR:=am' hr
 clear hp hr;go_enter Try.func73,Try.ntmps73
 go_wp2
 go_loopg [5,8] xs.length (fun gg _ s8 wr=>∃ kk:Nat,kk≤xs.length∧xs.length - kk≤gg∧s8 = .int .i64 kk∧Aside0 (Below w.heap.size w wr)∧Aside0 (∀ j,j < kk→p (rd xs (j:Nat))=false))
 case atStart=>exact ⟨0,Nat.zero_le _,by omega,rfl,⟨Below.refl _ w⟩,⟨fun j hj=>absurd hj (Nat.not_lt_zero _)⟩⟩
 case round =>
  obtain ⟨kk,hkk,hg,rfl,BW,AA⟩:=hrel;by_cases hlt:kk < xs.length
  ·
   have hltz:(kk:Int) < (xs.length:Int):=by omega
   obtain ⟨ad,e0,hx0⟩:=Kd.at_int HR.out (kk:Int) (by omega) hltz;cases e0;have hx:=(BW.out.cell (bl' w _ hx0)).trans hx0;clear hx0;rw[Int.toNat_natCast] at hx;have hcall:=HP.out (rd xs kk) (rd_mem xs kk hlt) wr BW.out;generalize hy:rd xs kk=y at hx hcall
   have B:Aside0 (rd xs kk=y):=⟨hy⟩
   clear hy;cases hq:p y with
   | true =>
    rw[hq] at hcall;go_wp2_with fail;refine hcall.mono ?_
    rintro e w' ⟨rfl,hb'⟩
    clear hcall hx;go_wp2;go_ret
    refine ⟨?_,bt' BW.out hb'⟩;rw[idxF_hit p xs kk hlt (by rw[B.out];exact hq) AA.out];rfl
   | false =>
    rw[hq] at hcall;go_wp2_with fail;refine hcall.mono ?_
    rintro e w' ⟨rfl,hb'⟩
    clear hcall hx;go_wp2;go_roundg (xs.length - (kk+1))
    case measure=>omega
    case rel =>
     refine ⟨kk+1,by omega,by omega,by go_num,⟨bt' BW.out hb'⟩,⟨fun j hj=>?_⟩⟩;by_cases e:j=kk
     ·
      subst e;rw[B.out];exact hq
     ·
      exact AA.out j (by omega)
  ·
   have hltz:¬ (kk:Int) < (xs.length:Int):=by omega
   have:kk=xs.length:=by omega
   subst this;go_wp2;go_ret
   refine ⟨?_,BW.out⟩;rw[idxF_miss p xs AA.out];rfl
set_option maxHeartbeats 2000000 in
set_option maxRecDepth 100000 in
theorem ContainsFunc_any (g:Nat) (lb:Array Value) (p:Int→Bool) (eg:∀ args w,(callFunc g args).run Try.prog w = .ok (.enter g args) w) (A0:Option Addr) (c0:Nat) (xs:List Int) (w:World) (hr:Kd.C (Kd.int .i64) w A0 xs.length xs) (hl:xs.length≤c0) (hbig:xs.length≤9223372036854775807)
  (hp:PredOn g lb p xs w) :
  Calls Try.prog 64 #[.slice A0 xs.length c0, .func (.func g) #[] lb] w fun e w'=>e = .returned (.bool (xs.any p))∧Below w.heap.size w w':=by
 have HH:=am' (IndexFunc_any g lb p eg A0 c0 xs w hr hl hbig hp)
 clear hr hl hp;go_enter Try.func64,Try.ntmps64
 go_wp2_with (go_at_call 73;refine HH.out.mono ?_;rintro e w' ⟨rfl,hb⟩)
 go_ret
 refine ⟨?_,hb⟩
 rw[← idxF_any]
 rfl
theorem in_calls (x lo hi:Int) (w:World):Calls Try.prog 46 #[.int .i64 x, .int .i64 lo, .int .i64 hi] w fun e w'=>e = .returned (.bool (inB lo hi x))∧Below w.heap.size w w' :=
 (impl_in.calls x lo hi (inB lo hi x) w (by unfold impl_in.f inB;by_cases h:lo≤x <;> simp [h])).mono fun e w' ⟨he,hd⟩=>⟨he,hd.below⟩
theorem areIn1_calls (x lo hi:Int) (b1 b2:Nat) (w:World) (h1:w.cell? ⟨b1,0,none⟩=some (.int .i64 lo)) (h2:w.cell? ⟨b2,0,none⟩=some (.int .i64 hi)) :
  Calls Try.prog 65 #[.int .i64 x, .pointer (some ⟨b1,0,none⟩), .pointer (some ⟨b2,0,none⟩)] w fun e w'=>e = .returned (.bool (!inB lo hi x))∧Below w.heap.size w w':=by
 go_enter Try.func65,Try.ntmps65
 go_wp2_with (go_at_call 46;refine (in_calls _ _ _ _).mono ?_;rintro e w' ⟨rfl,hb⟩)
 go_ret
 exact ⟨rfl,hb⟩
theorem areIn_pred (lo hi:Int) (b1 b2:Nat) (xs:List Int) (w:World) (h1:w.cell? ⟨b1,0,none⟩=some (.int .i64 lo)) (h2:w.cell? ⟨b2,0,none⟩=some (.int .i64 hi)) :
  PredOn 65 #[.pointer (some ⟨b1,0,none⟩), .pointer (some ⟨b2,0,none⟩)] (fun x => !inB lo hi x) xs w:=fun x _ W hb =>
 areIn1_calls x lo hi b1 b2 W ((hb.cell (bl' w _ h1)).trans h1) ((hb.cell (bl' w _ h2)).trans h2)
def impl_areIn.f (l0:List Int) (a1 a2 a3 a4:Int):Option Bool:=some (inB a3 a4 (l0.length:Int) && l0.all (inB a1 a2))
set_option maxHeartbeats 2000000 in
set_option maxRecDepth 100000 in
theorem impl_areIn.calls (A0:Option Addr) (c0:Nat) (l0:List Int) (a1 a2 a3 a4:Int) (r:Bool) (w:World) (hr0:Kd.C (Kd.int .i64) w A0 l0.length l0) (hc0:l0.length≤c0) (h:impl_areIn.f l0 a1 a2 a3 a4=some r) :
  Calls Try.prog 45 #[.slice A0 l0.length c0, .int .i64 a1, .int .i64 a2, .int .i64 a3, .int .i64 a4] w fun e w'=>e = .returned (.bool r)∧Below w.heap.size w w':=by
 have hbig:l0.length≤9223372036854775807:=hr0.2.1
 have HC:=am' (fun (w1:World) (h1:Below w.heap.size w w1) (b1 b2:Nat) (e1:w1.cell? ⟨b1,0,none⟩=some (.int .i64 a1)) (e2:w1.cell? ⟨b2,0,none⟩=some (.int .i64 a2)) =>
  ContainsFunc_any 65 #[.pointer (some ⟨b1,0,none⟩), .pointer (some ⟨b2,0,none⟩)] (fun x => !inB a1 a2 x) (enters_of Try.func65 xk' rfl) A0 c0 l0 w1 (cb' hr0 h1) hc0 hbig (areIn_pred a1 a2 b1 b2 l0 w1 e1 e2))
 clear hr0;cases hi:inB a3 a4 (l0.length:Int) with
 | false =>
  obtain rfl:false=r:=by unfold impl_areIn.f at h;simpa [hi] using h
  clear h;go_enter Try.func45,Try.ntmps45;go_wp2_with (go_at_call 46;refine (in_calls _ _ _ _).mono ?_;rintro e w' ⟨rfl,hb⟩);go_ret
  exact ⟨rfl,(after_alloc (after_alloc hb).1).1⟩
 | true =>
  obtain rfl:l0.all (inB a1 a2)=r:=by unfold impl_areIn.f at h;simpa [hi] using h
  clear h;go_enter Try.func45,Try.ntmps45;go_wp2_with (go_at_call 46;refine (in_calls _ _ _ _).mono ?_;rintro e w' ⟨rfl,hb⟩);have h2:=after_alloc hb;have h1:=after_alloc h2.1;rw[World.size_alloc] at h2;refine (HC.out w' h1.1 _ _ ((bc' h1.2 0).trans rfl) ((bc' h2.2 0).trans rfl)).mono ?_
  rintro e w2 ⟨rfl,hb2⟩
  clear hb h2;have HB2:=am' (bt' h1.1 hb2);clear h1 hb2;go_wp2;go_ret
  refine ⟨?_,HB2.out⟩;rw[← any_not_all];rfl
def impl_IsParty.f (l0_0:List Int) (a0_1:Int):Option (Bool):=(impl_areIn.f l0_0 1 1000 1 8).bind fun t342=>(if t342=true then ((impl_in.f a0_1 1 3).bind fun t343=>(some t343)) else (some false))
set_option maxHeartbeats 8000000 in
set_option maxRecDepth 100000 in
theorem impl_IsParty.calls (A0_0:Option Addr) (c0_0:Nat) (l0_0:List Int) (a0_1:Int) (r:Bool) (w:World) (hr0_0:Kd.C (Kd.int .i64) w A0_0 l0_0.length l0_0) (hc0_0:l0_0.length≤c0_0) (h:impl_IsParty.f l0_0 a0_1=some r) :
  Calls Try.prog 21 #[.agg #[.slice A0_0 l0_0.length c0_0, .int .i64 a0_1]] w fun e w'=>e = .returned (.bool r)∧Below w.heap.size w w':=by
 have hu28:=Try.underlying28
 have HR0_0:=am' hr0_0
 have HC0_0:=am' hc0_0
 clear hr0_0 hc0_0;have HB:=am' (Below.refl w.heap.size w)
 have H:((impl_areIn.f l0_0 1 1000 1 8).bind fun t342=>(if t342=true then ((impl_in.f a0_1 1 3).bind fun t343=>(some t343)) else (some false)))=some r:=h
 clear h;replace H:=Option.bind_eq_some_iff.mp H
 obtain ⟨t342,A20,H⟩:=H
 replace H:(if t342=true then ((impl_in.f a0_1 1 3).bind fun t343=>(some t343)) else (some false))=some r:=H
 have A2:=am' A20
 clear A20;by_cases c3:t342=true
 ·
  subst c3;have H1:((impl_in.f a0_1 1 3).bind fun t343=>(some t343))=some r:=by rw[if_pos rfl] at H;exact H
  clear H;have H:=H1;clear H1;replace H:=Option.bind_eq_some_iff.mp H;obtain ⟨t343,A40,H⟩:=H;replace H:(some t343)=some r:=H;have A4:=am' A40;clear A40;obtain rfl:=os' H;go_enter Try.func21,Try.ntmps21;go_wp2_with (first|((with_reducible refine gate_dst (N:=1) rfl ?_);refine box_event ?hg (N:=1) ?hd (cs:=#[.slice A0_0 l0_0.length c0_0, .int .i64 a0_1]) (t:=28) ?hr ?_;(case hd=>rfl);(case hg=>rfl);(case hr=>first|(go_simp;done)|(go_simp;rfl));intro gb341 hg w5 hbox hb;have n0_:=am' (bt' xb' hb);have n1_:=am' (hbox);have n2_:=am' ((by rw[hg];exact (bz' xb'):w.heap.size≤gb341));have n3_:=am' ((by rw[hg];exact (bz' xb'):w.heap.size≤gb341));clear HB;have HB:=n0_;have BK341:=n1_;have GW341:=n2_;have GE341:=n3_;clear n0_ n1_ n2_ n3_;clear hb hbox hg;have hcz6_0:w5.cell? ⟨gb341,0,none⟩=some (.slice A0_0 l0_0.length c0_0):=(bc' BK341.out 0).trans rfl;have hcz6_1:w5.cell? ⟨gb341,1,none⟩=some (.int .i64 a0_1):=(bc' BK341.out 1).trans rfl;have hfz6_0:=bf' BK341.out 0;have hfz6_1:=bf' BK341.out 1)|((with_reducible refine gate_callee (f:=45) rfl ?_);refine goesL_ (some 5) rfl rfl Try.func45 xk' rfl #[.slice A0_0 l0_0.length c0_0, .int .i64 1, .int .i64 1000, .int .i64 1, .int .i64 8] rfl xl' ?_;(with_reducible refine (impl_areIn.calls _ _ l0_0 1 1000 1 8 true _ ?side1 ?side2 A2.out).mono ?_);(case side1=>exact kc' (cb' HR0_0.out HB.out));(case side2=>exact HC0_0.out);rintro e w7 ⟨rfl,hb⟩;refine ⟨_,rfl,?_⟩;have n0_:=am' (bb' (g:=gb341) (o := .cells #[.slice A0_0 l0_0.length c0_0, .int .i64 a0_1] 28 (0,0)) (kk' BK341.out) hb);have n1_:=am' (bt' (yb' GE341.out) hb);clear BK341;clear HB;have BK341:=n0_;have HB:=n1_;clear n0_ n1_;(try clear hb);(try clear hb2);(try clear hk);(try clear hi);have hcz8_0:w7.cell? ⟨gb341,0,none⟩=some (.slice A0_0 l0_0.length c0_0):=(bc' BK341.out 0).trans rfl;have hcz8_1:w7.cell? ⟨gb341,1,none⟩=some (.int .i64 a0_1):=(bc' BK341.out 1).trans rfl;have hfz8_0:=bf' BK341.out 0;have hfz8_1:=bf' BK341.out 1)|(go_at_call 46;(with_reducible refine (impl_in.calls a0_1 1 3 t343 _ A4.out).mono ?_);rintro e w' ⟨rfl,⟨nd,rfl⟩⟩))
  go_ret
  exact ⟨by first|rfl|(simp[errW_none,errW_some] <;> rfl)|(simp[*,errW_none,errW_some] <;> rfl),yb' GE341.out⟩
 ·
  replace c3:=Bool.eq_false_iff.mpr c3;subst c3;have H1:(some false)=some r:=by rw[if_neg (show ¬ (false=true) by decide)] at H;exact H
  clear H;have H:=H1;clear H1;obtain rfl:=os' H;go_enter Try.func21,Try.ntmps21;go_wp2_with (first|((with_reducible refine gate_dst (N:=1) rfl ?_);refine box_event ?hg (N:=1) ?hd (cs:=#[.slice A0_0 l0_0.length c0_0, .int .i64 a0_1]) (t:=28) ?hr ?_;(case hd=>rfl);(case hg=>rfl);(case hr=>first|(go_simp;done)|(go_simp;rfl));intro gb341 hg w9 hbox hb;have n0_:=am' (bt' xb' hb);have n1_:=am' (hbox);have n2_:=am' ((by rw[hg];exact (bz' xb'):w.heap.size≤gb341));have n3_:=am' ((by rw[hg];exact (bz' xb'):w.heap.size≤gb341));clear HB;have HB:=n0_;have BK341:=n1_;have GW341:=n2_;have GE341:=n3_;clear n0_ n1_ n2_ n3_;clear hb hbox hg;have hcz10_0:w9.cell? ⟨gb341,0,none⟩=some (.slice A0_0 l0_0.length c0_0):=(bc' BK341.out 0).trans rfl;have hcz10_1:w9.cell? ⟨gb341,1,none⟩=some (.int .i64 a0_1):=(bc' BK341.out 1).trans rfl;have hfz10_0:=bf' BK341.out 0;have hfz10_1:=bf' BK341.out 1)|((with_reducible refine gate_callee (f:=45) rfl ?_);refine goesL_ (some 5) rfl rfl Try.func45 xk' rfl #[.slice A0_0 l0_0.length c0_0, .int .i64 1, .int .i64 1000, .int .i64 1, .int .i64 8] rfl xl' ?_;(with_reducible refine (impl_areIn.calls _ _ l0_0 1 1000 1 8 false _ ?side1 ?side2 A2.out).mono ?_);(case side1=>exact kc' (cb' HR0_0.out HB.out));(case side2=>exact HC0_0.out);rintro e w11 ⟨rfl,hb⟩;refine ⟨_,rfl,?_⟩;have n0_:=am' (bb' (g:=gb341) (o := .cells #[.slice A0_0 l0_0.length c0_0, .int .i64 a0_1] 28 (0,0)) (kk' BK341.out) hb);have n1_:=am' (bt' (yb' GE341.out) hb);clear BK341;clear HB;have BK341:=n0_;have HB:=n1_;clear n0_ n1_;(try clear hb);(try clear hb2);(try clear hk);(try clear hi)));go_ret
  exact ⟨by first|rfl|(simp[errW_none,errW_some] <;> rfl)|(simp[*,errW_none,errW_some] <;> rfl),yb' GE341.out⟩
end Go.Proofs.Ytihieplobgehaaa.C2
