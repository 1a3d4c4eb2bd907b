import Derived.Test.YtikjdmiohpdnaaaC20zx0
import Derived.Test.YtikjdmiohpdnaaaC20zx3
import Derived.Test.YtikjdmiohpdnaaaC20zx10
import Derived.Test.YtikjdmiohpdnaaaC20zAl
namespace Go.Proofs.Ytikjdmiohpdnaaa.C20
open Go.RowKit Go.Proofs.YtikjdmiohpdnaaaW.PrintWords Go.Proofs.YtikjdmiohpdnaaaW.PrintLast Go.Proofs.YtikjdmiohpdnaaaW.PrintMore Go.Proofs.Ytikjdmiohpdnaaa.H
attribute [local go_sem] max2_int min2_int max_two min_two max_three min_three max_four min_four
set_option linter.unusedVariables false
set_option linter.unusedSimpArgs false
def spec_loLeast.f (k:Nat) (l0_0:List Int) (l0_1:List Bool) (a0_2:Int) (a1:Bool):Option (Int):=(spec_loFar.f k l0_0 l0_1 a0_2 a1).bind fun bt308=>((spec_loStart.f k l0_0 l0_1 a0_2).bind fun t314=>(if 0≤t314 then (if t314 < (bt308.1.length:Int) then (some (rd bt308.1 t314)) else (none)) else (none)))
set_option maxHeartbeats 8000000 in
set_option maxRecDepth 100000 in
theorem spec_loLeast.calls (k:Nat) (A0_0:Option Addr) (c0_0:Nat) (l0_0:List Int) (A0_1:Option Addr) (c0_1:Nat) (l0_1:List Bool) (a0_2:Int) (a1:Bool) (r:Int) (w:World) (hr0_0:Kd.C (Kd.int .i64) w A0_0 l0_0.length l0_0) (hc0_0:l0_0.length≤c0_0) (hr0_1:Kd.C Kd.bool w A0_1 l0_1.length l0_1) (hc0_1:l0_1.length≤c0_1) (h:spec_loLeast.f k l0_0 l0_1 a0_2 a1=some r) :
  Calls Try.prog 75 #[.agg #[.slice A0_0 l0_0.length c0_0, .slice A0_1 l0_1.length c0_1, .int .i64 a0_2], .bool a1] w fun e w'=>e = .returned (.int .i64 r)∧Below w.heap.size w w':=by
 have hu29:=Try.underlying29
 have HR0_0:=am' hr0_0
 have HC0_0:=am' hc0_0
 clear hr0_0 hc0_0;have HR0_1:=am' hr0_1
 have HC0_1:=am' hc0_1
 clear hr0_1 hc0_1;have HB:=am' (Below.refl w.heap.size w)
 have H:((spec_loFar.f k l0_0 l0_1 a0_2 a1).bind fun bt308=>((spec_loStart.f k l0_0 l0_1 a0_2).bind fun t314=>(if 0≤t314 then (if t314 < (bt308.1.length:Int) then (some (rd bt308.1 t314)) else (none)) else (none))))=some r:=h
 clear h;replace H:=Option.bind_eq_some_iff.mp H
 obtain ⟨⟨t308,t311⟩,A30,H⟩:=H
 replace H:((spec_loStart.f k l0_0 l0_1 a0_2).bind fun t314=>(if 0≤t314 then (if t314 < (t308.length:Int) then (some (rd t308 t314)) else (none)) else (none)))=some r:=H
 have A3:=am' A30
 clear A30;replace H:=Option.bind_eq_some_iff.mp H
 obtain ⟨t314,A40,H⟩:=H
 replace H:(if 0≤t314 then (if t314 < (t308.length:Int) then (some (rd t308 t314)) else (none)) else (none))=some r:=H
 have A4:=am' A40
 clear A40;by_cases c5:0≤t314
 ·
  rw[if_pos c5] at H;have c5b0:decide (0≤t314)=true:=dt' c5;clear c5;by_cases c6:t314 < (t308.length:Int)
  ·
   rw[if_pos c6] at H;have c6b0:decide (t314 < (t308.length:Int))=true:=dt' c6;clear c6;obtain rfl:=os' H;go_enter Try.func75,Try.ntmps75;go_wp2_with (first|((with_reducible refine gate_dst (N:=2) rfl ?_);refine box_event ?hg (N:=2) ?hd (cs:=#[.slice A0_0 l0_0.length c0_0, .slice A0_1 l0_1.length c0_1, .int .i64 a0_2]) (t:=29) ?hr ?_;(case hd=>rfl);(case hg=>rfl);(case hr=>first|(go_simp;done)|(go_simp;rfl));intro gb307 hg w7 hbox hb;have n0_:=am' (bt' xb' hb);have n1_:=am' (hbox);have n2_:=am' ((by rw[hg];exact (bz' xb'):w.heap.size≤gb307));have n3_:=am' ((by rw[hg];exact (bz' xb'):w.heap.size≤gb307));clear HB;have HB:=n0_;have BK307:=n1_;have GW307:=n2_;have GE307:=n3_;clear n0_ n1_ n2_ n3_;clear hb hbox hg;have hcz8_0:w7.cell? ⟨gb307,0,none⟩=some (.slice A0_0 l0_0.length c0_0):=(bc' BK307.out 0).trans rfl;have hcz8_1:w7.cell? ⟨gb307,1,none⟩=some (.slice A0_1 l0_1.length c0_1):=(bc' BK307.out 1).trans rfl;have hcz8_2:w7.cell? ⟨gb307,2,none⟩=some (.int .i64 a0_2):=(bc' BK307.out 2).trans rfl;have hfz8_0:=bf' BK307.out 0;have hfz8_1:=bf' BK307.out 1;have hfz8_2:=bf' BK307.out 2)|((with_reducible refine gate_callee (f:=103) rfl ?_);refine goesL_ (some 10) rfl rfl Try.func103 xk' rfl #[.agg #[.slice A0_0 l0_0.length c0_0, .slice A0_1 l0_1.length c0_1, .int .i64 a0_2], .bool a1] rfl xl' ?_;(with_reducible refine (spec_loFar.calls k _ _ l0_0 _ _ l0_1 a0_2 a1 t308 t311 _ ?side1 ?side2 ?side3 ?side4 A3.out).mono ?_);(case side1=>exact kc' (cb' HR0_0.out HB.out));(case side2=>exact HC0_0.out);(case side3=>exact kc' (cb' HR0_1.out HB.out));(case side4=>exact HC0_1.out);rintro e w9 ⟨v309,v312,rfl,ho0,ho1,hb⟩;refine ⟨_,rfl,?_⟩;have n0_:=am' (Kd.R_lower ho0 (bz' (yb' GE307.out)));have n1_:=am' (Kd.R_lower ho1 (bz' (yb' GE307.out)));have n2_:=am' (bb' (g:=gb307) (o := .cells #[.slice A0_0 l0_0.length c0_0, .slice A0_1 l0_1.length c0_1, .int .i64 a0_2] 29 (0,0)) (kk' BK307.out) hb);have n3_:=am' (bt' (yb' GE307.out) hb);clear BK307;clear HB;have HO310:=n0_;have HO313:=n1_;have BK307:=n2_;have HB:=n3_;clear n0_ n1_ n2_ n3_;(try clear hb);(try clear hb2);(try clear hk);(try clear hi);(try clear ho0);(try clear ho1);have hcz10_0:w9.cell? ⟨gb307,0,none⟩=some (.slice A0_0 l0_0.length c0_0):=(bc' BK307.out 0).trans rfl;have hcz10_1:w9.cell? ⟨gb307,1,none⟩=some (.slice A0_1 l0_1.length c0_1):=(bc' BK307.out 1).trans rfl;have hcz10_2:w9.cell? ⟨gb307,2,none⟩=some (.int .i64 a0_2):=(bc' BK307.out 2).trans rfl;have hfz10_0:=bf' BK307.out 0;have hfz10_1:=bf' BK307.out 1;have hfz10_2:=bf' BK307.out 2)|((with_reducible refine gate_callee (f:=80) rfl ?_);refine goesL_ (some 15) rfl rfl Try.func80 xk' rfl #[.agg #[.slice A0_0 l0_0.length c0_0, .slice A0_1 l0_1.length c0_1, .int .i64 a0_2]] rfl xl' ?_;(with_reducible refine (spec_loStart.calls k _ _ l0_0 _ _ l0_1 a0_2 t314 _ ?side1 ?side2 ?side3 ?side4 A4.out).mono ?_);(case side1=>exact kc' (cb' HR0_0.out HB.out));(case side2=>exact HC0_0.out);(case side3=>exact kc' (cb' HR0_1.out HB.out));(case side4=>exact HC0_1.out);rintro e w11 ⟨rfl,hb⟩;refine ⟨_,rfl,?_⟩;have n0_:=am' (rb' (kr' HO310.out) hb);have n1_:=am' (rb' (kr' HO313.out) hb);have n2_:=am' (bb' (g:=gb307) (o := .cells #[.slice A0_0 l0_0.length c0_0, .slice A0_1 l0_1.length c0_1, .int .i64 a0_2] 29 (0,0)) (kk' BK307.out) hb);have n3_:=am' (bt' (yb' GE307.out) hb);clear HO310;clear HO313;clear BK307;clear HB;have HO310:=n0_;have HO313:=n1_;have BK307:=n2_;have HB:=n3_;clear n0_ n1_ n2_ n3_;(try clear hb);(try clear hb2);(try clear hk);(try clear hi);obtain ⟨Ao12,co12,eo12⟩:=Kd.R_slice HO310.out;subst eo12;have p315:0≤(t314:Int):=od' xa';have q315:t314 < (t308.length:Int):=od' xa';obtain ⟨ad315,e315,hx315_0⟩:=Kd.at_int (Kd.R_reads' HO310.out).2.2 t314 p315 q315;cases e315;replace p315:=eq_true p315;replace q315:=eq_true q315))
   go_ret
   exact ⟨by first|rfl|(simp[errW_none,errW_some] <;> rfl)|(simp[*,errW_none,errW_some] <;> rfl),yb' GE307.out⟩
  ·
   rw[if_neg c6] at H;exact absurd H (by simp)
 ·
  rw[if_neg c5] at H;exact absurd H (by simp)
end Go.Proofs.Ytikjdmiohpdnaaa.C20
