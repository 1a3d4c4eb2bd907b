import Derived.Test.YtdomojenlofieaaC2zx0
import Derived.Test.YtdomojenlofieaaC2zx12
import Derived.Test.YtdomojenlofieaaC2zAl
namespace Go.Proofs.Ytdomojenlofieaa.C2
open Go.RowKit Go.Proofs.YtdomojenlofieaaW.PrintWords Go.Proofs.YtdomojenlofieaaW.PrintLast Go.Proofs.YtdomojenlofieaaW.PrintMore Go.Proofs.Ytdomojenlofieaa.H
attribute [local go_sem] max2_int min2_int max_two min_two max_three min_three max_four min_four
set_option linter.unusedVariables false
set_option linter.unusedSimpArgs false
def laws_heldCamp.f (k:Nat) (l0_0:List Bool) (a0_1:Int) (a1:Int):Option (Int):=(laws_heldBoolS.f k l0_0 a1).bind fun t324=>(if t324 < 0 then (some (-1)) else (some t324))
set_option maxHeartbeats 8000000 in
set_option maxRecDepth 100000 in
theorem laws_heldCamp.calls (k:Nat) (A0_0:Option Addr) (c0_0:Nat) (l0_0:List Bool) (a0_1:Int) (a1:Int) (r:Int) (w:World) (hr0_0:Kd.C Kd.bool w A0_0 l0_0.length l0_0) (hc0_0:l0_0.length≤c0_0) (h:laws_heldCamp.f k l0_0 a0_1 a1=some r) :
  Calls Try.prog 19 #[.agg #[.slice A0_0 l0_0.length c0_0, .int .i64 a0_1], .int .i64 a1] w fun e w'=>e = .returned (.int .i64 r)∧Below w.heap.size w w':=by
 have hu32:=Try.underlying32
 have HR0_0:=am' hr0_0
 have HC0_0:=am' hc0_0
 clear hr0_0 hc0_0;have HB:=am' (Below.refl w.heap.size w)
 have H:((laws_heldBoolS.f k l0_0 a1).bind fun t324=>(if t324 < 0 then (some (-1)) else (some t324)))=some r:=h
 clear h;replace H:=Option.bind_eq_some_iff.mp H
 obtain ⟨t324,A30,H⟩:=H
 replace H:(if t324 < 0 then (some (-1)) else (some t324))=some r:=H
 have A3:=am' A30
 clear A30;by_cases c4:t324 < 0
 ·
  rw[if_pos c4] at H;have c4b0:decide (t324 < 0)=true:=dt' c4;clear c4;obtain rfl:=os' H;go_enter Try.func19,Try.ntmps19;go_wp2_with (first|((with_reducible refine gate_dst (N:=2) rfl ?_);refine box_event ?hg (N:=2) ?hd (cs:=#[.slice A0_0 l0_0.length c0_0, .int .i64 a0_1]) (t:=32) ?hr ?_;(case hd=>rfl);(case hg=>rfl);(case hr=>first|(go_simp;done)|(go_simp;rfl));intro gb323 hg w5 hbox hb;have n0_:=am' (bt' xb' hb);have n1_:=am' (hbox);have n2_:=am' ((by rw[hg];exact (bz' xb'):w.heap.size≤gb323));have n3_:=am' ((by rw[hg];exact (bz' xb'):w.heap.size≤gb323));clear HB;have HB:=n0_;have BK323:=n1_;have GW323:=n2_;have GE323:=n3_;clear n0_ n1_ n2_ n3_;clear hb hbox hg;have hcz6_0:w5.cell? ⟨gb323,0,none⟩=some (.slice A0_0 l0_0.length c0_0):=(bc' BK323.out 0).trans rfl;have hcz6_1:w5.cell? ⟨gb323,1,none⟩=some (.int .i64 a0_1):=(bc' BK323.out 1).trans rfl;have hfz6_0:=bf' BK323.out 0;have hfz6_1:=bf' BK323.out 1)|((with_reducible refine gate_callee (f:=43) rfl ?_);refine goesL_ (some 8) rfl rfl Try.func43 xk' rfl #[.slice A0_0 l0_0.length c0_0, .int .i64 a1] rfl xl' ?_;(with_reducible refine (laws_heldBoolS.calls k _ _ l0_0 a1 t324 _ ?side1 ?side2 A3.out).mono ?_);(case side1=>exact kc' (cb' HR0_0.out HB.out));(case side2=>exact HC0_0.out);rintro e w' ⟨rfl,⟨nd,rfl⟩⟩;refine ⟨_,rfl,?_⟩));go_ret
  exact ⟨by first|rfl|(simp[errW_none,errW_some] <;> rfl)|(simp[*,errW_none,errW_some] <;> rfl),yb' GE323.out⟩
 ·
  rw[if_neg c4] at H;have c4b0:decide (t324 < 0)=false:=df' c4;clear c4;obtain rfl:=os' H;go_enter Try.func19,Try.ntmps19;go_wp2_with (first|((with_reducible refine gate_dst (N:=2) rfl ?_);refine box_event ?hg (N:=2) ?hd (cs:=#[.slice A0_0 l0_0.length c0_0, .int .i64 a0_1]) (t:=32) ?hr ?_;(case hd=>rfl);(case hg=>rfl);(case hr=>first|(go_simp;done)|(go_simp;rfl));intro gb323 hg w7 hbox hb;have n0_:=am' (bt' xb' hb);have n1_:=am' (hbox);have n2_:=am' ((by rw[hg];exact (bz' xb'):w.heap.size≤gb323));have n3_:=am' ((by rw[hg];exact (bz' xb'):w.heap.size≤gb323));clear HB;have HB:=n0_;have BK323:=n1_;have GW323:=n2_;have GE323:=n3_;clear n0_ n1_ n2_ n3_;clear hb hbox hg;have hcz8_0:w7.cell? ⟨gb323,0,none⟩=some (.slice A0_0 l0_0.length c0_0):=(bc' BK323.out 0).trans rfl;have hcz8_1:w7.cell? ⟨gb323,1,none⟩=some (.int .i64 a0_1):=(bc' BK323.out 1).trans rfl;have hfz8_0:=bf' BK323.out 0;have hfz8_1:=bf' BK323.out 1)|((with_reducible refine gate_callee (f:=43) rfl ?_);refine goesL_ (some 8) rfl rfl Try.func43 xk' rfl #[.slice A0_0 l0_0.length c0_0, .int .i64 a1] rfl xl' ?_;(with_reducible refine (laws_heldBoolS.calls k _ _ l0_0 a1 t324 _ ?side1 ?side2 A3.out).mono ?_);(case side1=>exact kc' (cb' HR0_0.out HB.out));(case side2=>exact HC0_0.out);rintro e w' ⟨rfl,⟨nd,rfl⟩⟩;refine ⟨_,rfl,?_⟩));go_ret
  exact ⟨by first|rfl|(simp[errW_none,errW_some] <;> rfl)|(simp[*,errW_none,errW_some] <;> rfl),yb' GE323.out⟩
end Go.Proofs.Ytdomojenlofieaa.C2
