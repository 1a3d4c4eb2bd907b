import Derived.Test.YtabhhkiipilghaaC1zx0
import Derived.Test.YtabhhkiipilghaaC1zx3
import Derived.Test.YtabhhkiipilghaaC1zAl
namespace Go.Proofs.Ytabhhkiipilghaa.C1
open Go.RowKit Go.Proofs.YtabhhkiipilghaaW.PrintWords Go.Proofs.YtabhhkiipilghaaW.PrintLast Go.Proofs.YtabhhkiipilghaaW.PrintMore Go.Proofs.Ytabhhkiipilghaa.H
attribute [local go_sem] max2_int min2_int max_two min_two max_three min_three max_four min_four
set_option linter.unusedVariables false
set_option linter.unusedSimpArgs false
def spec_cuSides.f (a0:Int) (a1:Int) (a2:Int):Option (Bool):=(spec_l1In.f a0 0 8).bind fun t110=>(if t110=true then ((spec_l1In.f a1 0 8).bind fun t111=>(if t111=true then (if (wrap64 (a0+a1)) > 0 then ((spec_l1In.f a2 1 4).bind fun t112=>(some t112)) else (some false)) else (some false))) else (some false))
set_option maxHeartbeats 8000000 in
set_option maxRecDepth 100000 in
theorem spec_cuSides.calls (a0:Int) (a1:Int) (a2:Int) (r:Bool) (w:World) (h:spec_cuSides.f a0 a1 a2=some r) :
  Calls Try.prog 30 #[.int .i64 a0, .int .i64 a1, .int .i64 a2] w fun e w'=>e = .returned (.bool r)∧Drawn0 w w':=by
 have H:((spec_l1In.f a0 0 8).bind fun t110=>(if t110=true then ((spec_l1In.f a1 0 8).bind fun t111=>(if t111=true then (if (wrap64 (a0+a1)) > 0 then ((spec_l1In.f a2 1 4).bind fun t112=>(some t112)) else (some false)) else (some false))) else (some false)))=some r:=h
 clear h;replace H:=Option.bind_eq_some_iff.mp H
 obtain ⟨t110,A40,H⟩:=H
 replace H:(if t110=true then ((spec_l1In.f a1 0 8).bind fun t111=>(if t111=true then (if (wrap64 (a0+a1)) > 0 then ((spec_l1In.f a2 1 4).bind fun t112=>(some t112)) else (some false)) else (some false))) else (some false))=some r:=H
 have A4:=am' A40
 clear A40;by_cases c5:t110=true
 ·
  subst c5;have H1:((spec_l1In.f a1 0 8).bind fun t111=>(if t111=true then (if (wrap64 (a0+a1)) > 0 then ((spec_l1In.f a2 1 4).bind fun t112=>(some t112)) else (some false)) else (some false)))=some r:=by rw[if_pos rfl] at H;exact H
  clear H;have H:=H1;clear H1;replace H:=Option.bind_eq_some_iff.mp H;obtain ⟨t111,A60,H⟩:=H;replace H:(if t111=true then (if (wrap64 (a0+a1)) > 0 then ((spec_l1In.f a2 1 4).bind fun t112=>(some t112)) else (some false)) else (some false))=some r:=H;have A6:=am' A60;clear A60;by_cases c7:t111=true
  ·
   subst c7;have H1:(if (wrap64 (a0+a1)) > 0 then ((spec_l1In.f a2 1 4).bind fun t112=>(some t112)) else (some false))=some r:=by rw[if_pos rfl] at H;exact H
   clear H;have H:=H1;clear H1;by_cases c8:(wrap64 (a0+a1)) > 0
   ·
    rw[if_pos c8] at H;have c8b0:decide (0 < (wrap64 (a0+a1)))=true:=dt' c8;clear c8;replace H:=Option.bind_eq_some_iff.mp H;obtain ⟨t112,A90,H⟩:=H;replace H:(some t112)=some r:=H;have A9:=am' A90;clear A90;obtain rfl:=os' H;go_enter Try.func30,Try.ntmps30;go_wp2_with (first|((with_reducible refine gate_callee (f:=33) rfl ?_);refine goesL_ (some 8) rfl rfl Try.func33 xk' rfl #[.int .i64 a0, .int .i64 0, .int .i64 8] rfl xl' ?_;(with_reducible refine (spec_l1In.calls a0 0 8 true _ A4.out).mono ?_);rintro e w' ⟨rfl,⟨nd,rfl⟩⟩;refine ⟨_,rfl,?_⟩)|(go_at_call 33;(with_reducible refine (spec_l1In.calls a1 0 8 true _ A6.out).mono ?_);rintro e w' ⟨rfl,⟨nd,rfl⟩⟩)|(go_at_call 33;(with_reducible refine (spec_l1In.calls a2 1 4 t112 _ A9.out).mono ?_);rintro e w' ⟨rfl,⟨nd,rfl⟩⟩));go_ret
    exact ⟨xs',by repeat (first|exact Drawn0.refl _|apply Drawn0.step)⟩
   ·
    rw[if_neg c8] at H;have c8b0:decide (0 < (wrap64 (a0+a1)))=false:=df' c8;clear c8;obtain rfl:=os' H;go_enter Try.func30,Try.ntmps30;go_wp2_with (first|((with_reducible refine gate_callee (f:=33) rfl ?_);refine goesL_ (some 8) rfl rfl Try.func33 xk' rfl #[.int .i64 a0, .int .i64 0, .int .i64 8] rfl xl' ?_;(with_reducible refine (spec_l1In.calls a0 0 8 true _ A4.out).mono ?_);rintro e w' ⟨rfl,⟨nd,rfl⟩⟩;refine ⟨_,rfl,?_⟩)|(go_at_call 33;(with_reducible refine (spec_l1In.calls a1 0 8 true _ A6.out).mono ?_);rintro e w' ⟨rfl,⟨nd,rfl⟩⟩));go_ret
    exact ⟨xs',by repeat (first|exact Drawn0.refl _|apply Drawn0.step)⟩
  ·
   replace c7:=Bool.eq_false_iff.mpr c7;subst c7;have H1:(some false)=some r:=by rw[if_neg (show ¬ (false=true) by decide)] at H;exact H
   clear H;have H:=H1;clear H1;obtain rfl:=os' H;go_enter Try.func30,Try.ntmps30;go_wp2_with (first|((with_reducible refine gate_callee (f:=33) rfl ?_);refine goesL_ (some 8) rfl rfl Try.func33 xk' rfl #[.int .i64 a0, .int .i64 0, .int .i64 8] rfl xl' ?_;(with_reducible refine (spec_l1In.calls a0 0 8 true _ A4.out).mono ?_);rintro e w' ⟨rfl,⟨nd,rfl⟩⟩;refine ⟨_,rfl,?_⟩)|(go_at_call 33;(with_reducible refine (spec_l1In.calls a1 0 8 false _ A6.out).mono ?_);rintro e w' ⟨rfl,⟨nd,rfl⟩⟩));go_ret
   exact ⟨xs',by repeat (first|exact Drawn0.refl _|apply Drawn0.step)⟩
 ·
  replace c5:=Bool.eq_false_iff.mpr c5;subst c5;have H1:(some false)=some r:=by rw[if_neg (show ¬ (false=true) by decide)] at H;exact H
  clear H;have H:=H1;clear H1;obtain rfl:=os' H;go_enter Try.func30,Try.ntmps30;go_wp2_with (first|((with_reducible refine gate_callee (f:=33) rfl ?_);refine goesL_ (some 8) rfl rfl Try.func33 xk' rfl #[.int .i64 a0, .int .i64 0, .int .i64 8] rfl xl' ?_;(with_reducible refine (spec_l1In.calls a0 0 8 false _ A4.out).mono ?_);rintro e w' ⟨rfl,⟨nd,rfl⟩⟩;refine ⟨_,rfl,?_⟩));go_ret
  exact ⟨xs',by repeat (first|exact Drawn0.refl _|apply Drawn0.step)⟩
def spec_cuHeld.f (a0:Int) (a1:Int):Option (Bool):=if a0=0 then (some true) else (some (decide (a0 ≥ a1)))
set_option maxHeartbeats 8000000 in
set_option maxRecDepth 100000 in
theorem spec_cuHeld.calls (a0:Int) (a1:Int) (r:Bool) (w:World) (h:spec_cuHeld.f a0 a1=some r) :
  Calls Try.prog 31 #[.int .i64 a0, .int .i64 a1] w fun e w'=>e = .returned (.bool r)∧Drawn0 w w':=by
 have H:(if a0=0 then (some true) else (some (decide (a0 ≥ a1))))=some r:=h
 clear h;by_cases c3:a0=0
 ·
  rw[if_pos c3] at H;have c3b0:(a0 == 0)=true:=beq_iff_eq.mpr c3;have c3b1:(a0 != 0)=false:=bne_eq_false_iff_eq.mpr c3;clear c3;obtain rfl:=os' H;go_enter Try.func31,Try.ntmps31;go_wp2;go_ret
  exact ⟨xs',by repeat (first|exact Drawn0.refl _|apply Drawn0.step)⟩
 ·
  rw[if_neg c3] at H;have c3b0:(a0 == 0)=false:=beq_eq_false_iff_ne.mpr c3;have c3b1:(a0 != 0)=true:=bne_iff_ne.mpr c3;obtain rfl:=os' H;go_enter Try.func31,Try.ntmps31;go_wp2;go_ret
  exact ⟨xs',by repeat (first|exact Drawn0.refl _|apply Drawn0.step)⟩
def spec_cuSpot.f (a0:Int) (a1:Int) (a2:Int) (a3:Int):Option (Int):=some (wrap64 ((wrap64 ((wrap64 ((wrap64 (a1 * (wrap64 (a0+1))))+a2)) * 2))+a3))
set_option maxHeartbeats 8000000 in
set_option maxRecDepth 100000 in
theorem spec_cuSpot.calls (a0:Int) (a1:Int) (a2:Int) (a3:Int) (r:Int) (w:World) (h:spec_cuSpot.f a0 a1 a2 a3=some r) :
  Calls Try.prog 34 #[.int .i64 a0, .int .i64 a1, .int .i64 a2, .int .i64 a3] w fun e w'=>e = .returned (.int .i64 r)∧Drawn0 w w':=by
 have H:(some (wrap64 ((wrap64 ((wrap64 ((wrap64 (a1 * (wrap64 (a0+1))))+a2)) * 2))+a3)))=some r:=h
 clear h;obtain rfl:=os' H
 go_enter Try.func34,Try.ntmps34
 go_wp2
 go_ret
 exact ⟨xs',by repeat (first|exact Drawn0.refl _|apply Drawn0.step)⟩
def spec_cuGuarded.f (a0:Int) (a1:Int) (a2:Int) (a3:Int):Option (Bool):=(spec_cuHeld.f a2 a3).bind fun t113=>(if t113=true then ((spec_cuHeld.f (wrap64 (a0 - a2)) (wrap64 (a1 - a3))).bind fun t114=>(some t114)) else (some false))
set_option maxHeartbeats 8000000 in
set_option maxRecDepth 100000 in
theorem spec_cuGuarded.calls (a0:Int) (a1:Int) (a2:Int) (a3:Int) (r:Bool) (w:World) (h:spec_cuGuarded.f a0 a1 a2 a3=some r) :
  Calls Try.prog 38 #[.int .i64 a0, .int .i64 a1, .int .i64 a2, .int .i64 a3] w fun e w'=>e = .returned (.bool r)∧Drawn0 w w':=by
 have H:((spec_cuHeld.f a2 a3).bind fun t113=>(if t113=true then ((spec_cuHeld.f (wrap64 (a0 - a2)) (wrap64 (a1 - a3))).bind fun t114=>(some t114)) else (some false)))=some r:=h
 clear h;replace H:=Option.bind_eq_some_iff.mp H
 obtain ⟨t113,A50,H⟩:=H
 replace H:(if t113=true then ((spec_cuHeld.f (wrap64 (a0 - a2)) (wrap64 (a1 - a3))).bind fun t114=>(some t114)) else (some false))=some r:=H
 have A5:=am' A50
 clear A50;by_cases c6:t113=true
 ·
  subst c6;have H1:((spec_cuHeld.f (wrap64 (a0 - a2)) (wrap64 (a1 - a3))).bind fun t114=>(some t114))=some r:=by rw[if_pos rfl] at H;exact H
  clear H;have H:=H1;clear H1;replace H:=Option.bind_eq_some_iff.mp H;obtain ⟨t114,A70,H⟩:=H;replace H:(some t114)=some r:=H;have A7:=am' A70;clear A70;obtain rfl:=os' H;go_enter Try.func38,Try.ntmps38;go_wp2_with (first|((with_reducible refine gate_callee (f:=31) rfl ?_);refine goesL_ (some 11) rfl rfl Try.func31 xk' rfl #[.int .i64 a2, .int .i64 a3] rfl xl' ?_;(with_reducible refine (spec_cuHeld.calls a2 a3 true _ A5.out).mono ?_);rintro e w' ⟨rfl,⟨nd,rfl⟩⟩;refine ⟨_,rfl,?_⟩)|(go_at_call 31;(with_reducible refine (spec_cuHeld.calls (wrap64 (a0 - a2)) (wrap64 (a1 - a3)) t114 _ A7.out).mono ?_);rintro e w' ⟨rfl,⟨nd,rfl⟩⟩));go_ret
  exact ⟨xs',by repeat (first|exact Drawn0.refl _|apply Drawn0.step)⟩
 ·
  replace c6:=Bool.eq_false_iff.mpr c6;subst c6;have H1:(some false)=some r:=by rw[if_neg (show ¬ (false=true) by decide)] at H;exact H
  clear H;have H:=H1;clear H1;obtain rfl:=os' H;go_enter Try.func38,Try.ntmps38;go_wp2_with (first|((with_reducible refine gate_callee (f:=31) rfl ?_);refine goesL_ (some 11) rfl rfl Try.func31 xk' rfl #[.int .i64 a2, .int .i64 a3] rfl xl' ?_;(with_reducible refine (spec_cuHeld.calls a2 a3 false _ A5.out).mono ?_);rintro e w' ⟨rfl,⟨nd,rfl⟩⟩;refine ⟨_,rfl,?_⟩));go_ret
  exact ⟨xs',by repeat (first|exact Drawn0.refl _|apply Drawn0.step)⟩
end Go.Proofs.Ytabhhkiipilghaa.C1
