import Derived.Test.YtabhhkiipilghaaC2zx0
import Derived.Test.YtabhhkiipilghaaC2zx3
import Derived.Test.YtabhhkiipilghaaC2zx5
import Derived.Test.YtabhhkiipilghaaC2zx11
import Derived.Test.YtabhhkiipilghaaC2zAl
namespace Go.Proofs.Ytabhhkiipilghaa.C2
open Go.RowKit Go.Proofs.YtabhhkiipilghaaW.PrintWords Go.Proofs.YtabhhkiipilghaaW.PrintLast Go.Proofs.YtabhhkiipilghaaW.PrintMore Go.Proofs.Ytabhhkiipilghaa.H
attribute [local go_sem] max2_int min2_int max_two min_two max_three min_three max_four min_four
set_option linter.unusedVariables false
set_option linter.unusedSimpArgs false
def spec_IsCalmGroup.j0:Nat→Int→List Int→Bool→Option (Bool × Bool)
 | 0,_,_,_=>none
 | k+1,x0,x1,x16=>if x16=true then (some (false,false)) else ((spec_cuBits.f k x1).bind fun t328=>((spec_cuCalm.f k x0 t328).bind fun t329=>(some (t329,true))))
def spec_IsCalmGroup.f (k:Nat) (a0:Int) (l1:List Int):Option (Bool × Bool):=(spec_l1In.f a0 1 4).bind fun t326=>(if t326=true then ((spec_l1Rising.f k l1 0 (wrap64 ((wrap64 (2 * a0)) - 1))).bind fun t327=>(spec_IsCalmGroup.j0 k a0 l1 (!t327))) else (spec_IsCalmGroup.j0 k a0 l1 true))
theorem spec_IsCalmGroup.mono_l:∀ k,(∀ y0 y1 y2,LeO (spec_IsCalmGroup.j0 k y0 y1 y2) (spec_IsCalmGroup.j0 (k+1) y0 y1 y2))
 | 0=>fun _ _ _ r h=>by simp[spec_IsCalmGroup.j0] at h
 | k+1=>by
  have ih0:=spec_IsCalmGroup.mono_l k
  ·
   intro y0 y1 y2;unfold spec_IsCalmGroup.j0
   repeat' first
   | (with_reducible exact ih0 _ _ _)
   | (with_reducible exact spec_cuBits.mono _ _)
   | (with_reducible exact spec_cuCalm.mono _ _ _)
   | (with_reducible exact spec_l1Rising.mono _ _ _ _)
   | (with_reducible exact LeO.refl _)
   | (with_reducible exact LeO.none _)
   | (with_reducible refine LeO.ite ?_ ?_)
   | (with_reducible refine LeO.bind ?_ (fun _=>?_))
   | exact ih0 _ _ _
   | exact spec_cuBits.mono _ _
   | exact spec_cuCalm.mono _ _ _
   | exact spec_l1Rising.mono _ _ _ _
   | exact LeO.none _
   | refine LeO.ite ?_ ?_
   | refine LeO.bind ?_ (fun _=>?_)
theorem spec_IsCalmGroup.mono:∀ a0 a1 k,LeO (spec_IsCalmGroup.f k a0 a1) (spec_IsCalmGroup.f (k+1) a0 a1):=by
 intro a0 a1 k;have ih0:=spec_IsCalmGroup.mono_l k
 unfold spec_IsCalmGroup.f
 repeat' first
   | (with_reducible exact ih0 _ _ _)
   | (with_reducible exact spec_cuBits.mono _ _)
   | (with_reducible exact spec_cuCalm.mono _ _ _)
   | (with_reducible exact spec_l1Rising.mono _ _ _ _)
   | (with_reducible exact LeO.refl _)
   | (with_reducible exact LeO.none _)
   | (with_reducible refine LeO.ite ?_ ?_)
   | (with_reducible refine LeO.bind ?_ (fun _=>?_))
   | exact ih0 _ _ _
   | exact spec_cuBits.mono _ _
   | exact spec_cuCalm.mono _ _ _
   | exact spec_l1Rising.mono _ _ _ _
   | exact LeO.none _
   | refine LeO.ite ?_ ?_
   | refine LeO.bind ?_ (fun _=>?_)
set_option maxHeartbeats 8000000 in
set_option maxRecDepth 100000 in
theorem spec_IsCalmGroup.calls (k:Nat) (a0:Int) (A1:Option Addr) (c1:Nat) (l1:List Int) (r1:Bool) (r2:Bool) (w:World) (hr1:Kd.C (Kd.int .i64) w A1 l1.length l1) (hc1:l1.length≤c1) (h:spec_IsCalmGroup.f k a0 l1=some (r1,r2)) :
  Calls Try.prog 25 #[.int .i64 a0, .slice A1 l1.length c1] w fun e w'=>e = .returned (.tuple #[.bool r1, .bool r2])∧Drawn0 w w':=by
 have HR1:=am' hr1
 have HC1:=am' hc1
 clear hr1 hc1;have H:((spec_l1In.f a0 1 4).bind fun t326=>(if t326=true then ((spec_l1Rising.f k l1 0 (wrap64 ((wrap64 (2 * a0)) - 1))).bind fun t327=>(spec_IsCalmGroup.j0 k a0 l1 (!t327))) else (spec_IsCalmGroup.j0 k a0 l1 true)))=some (r1,r2):=h
 clear h;have HC3:=am' H
 clear H;go_enter Try.func25,Try.ntmps25
 go_upto_region 1 with (fail)
 go_cut [16] (fun v16 wc=>∃ (kq:Nat) (x16_2:Bool),v16 = .bool x16_2∧Aside0 (spec_IsCalmGroup.j0 kq a0 l1 x16_2=some (r1,r2))∧Aside0 (kq≤k)∧Drawn0 w wc)
 case first =>
  have H:=HC3.out;clear HC3;replace H:=Option.bind_eq_some_iff.mp H;obtain ⟨t326,A40,H⟩:=H;replace H:(if t326=true then ((spec_l1Rising.f k l1 0 (wrap64 ((wrap64 (2 * a0)) - 1))).bind fun t327=>(spec_IsCalmGroup.j0 k a0 l1 (!t327))) else (spec_IsCalmGroup.j0 k a0 l1 true))=some (r1,r2):=H;have A4:=am' A40;clear A40;by_cases c5:t326=true
  ·
   subst c5;have H1:((spec_l1Rising.f k l1 0 (wrap64 ((wrap64 (2 * a0)) - 1))).bind fun t327=>(spec_IsCalmGroup.j0 k a0 l1 (!t327)))=some (r1,r2):=by rw[if_pos rfl] at H;exact H
   clear H;have H:=H1;clear H1;replace H:=Option.bind_eq_some_iff.mp H;obtain ⟨t327,A60,H⟩:=H;replace H:(spec_IsCalmGroup.j0 k a0 l1 (!t327))=some (r1,r2):=H;have A6:=am' A60;clear A60;have H':=am' H;clear H;go_wp2_with (first|((with_reducible refine gate_callee (f:=33) rfl ?_);refine goesL_ (some 7) rfl rfl Try.func33 xk' rfl #[.int .i64 a0, .int .i64 1, .int .i64 4] rfl xl' ?_;(with_reducible refine (spec_l1In.calls a0 1 4 true _ A4.out).mono ?_);rintro e w' ⟨rfl,⟨nd,rfl⟩⟩;refine ⟨_,rfl,?_⟩)|(go_at_call 58;(with_reducible refine (spec_l1Rising.calls k _ _ l1 0 (wrap64 ((wrap64 (2 * a0)) - 1)) t327 _ ?side1 ?side2 A6.out).mono ?_);(case side1=>repeat (first|exact HR1.out|(with_reducible refine ca' ?_ _)|(with_reducible refine cn' ?_ _)|(with_reducible refine cd' ?_)));(case side2=>exact HC1.out);rintro e w' ⟨rfl,⟨nd,rfl⟩⟩));go_meet
   case rel=>exact ⟨_,(!t327),xs',H',⟨by first|omega|exact Nat.le_refl _⟩,by repeat (first|exact Drawn0.refl _|apply Drawn0.step)⟩
  ·
   replace c5:=Bool.eq_false_iff.mpr c5;subst c5;have H1:(spec_IsCalmGroup.j0 k a0 l1 true)=some (r1,r2):=by rw[if_neg (show ¬ (false=true) by decide)] at H;exact H
   clear H;have H:=H1;clear H1;have H':=am' H;clear H;go_wp2_with (first|((with_reducible refine gate_callee (f:=33) rfl ?_);refine goesL_ (some 7) rfl rfl Try.func33 xk' rfl #[.int .i64 a0, .int .i64 1, .int .i64 4] rfl xl' ?_;(with_reducible refine (spec_l1In.calls a0 1 4 false _ A4.out).mono ?_);rintro e w' ⟨rfl,⟨nd,rfl⟩⟩;refine ⟨_,rfl,?_⟩));go_meet
   case rel=>exact ⟨_,(true),xs',H',⟨by first|omega|exact Nat.le_refl _⟩,by repeat (first|exact Drawn0.refl _|apply Drawn0.step)⟩
 case rest =>
  clear HC3;try clear c1
  try clear c2
  try clear p2
  try clear c3
  try clear c5
  try clear p6
  obtain ⟨kq,x16_2,rfl,HA,HJ2,⟨mc2,rfl⟩⟩:=hcut;cases kq with
  | zero=>exact absurd HA.out (by simp[spec_IsCalmGroup.j0])
  | succ kj2 =>
   have H:=HA.out;clear HA;simp only[spec_IsCalmGroup.j0] at H;by_cases c7:x16_2=true
   ·
    subst c7;have H1:(some (false,false))=some (r1,r2):=by rw[if_pos rfl] at H;exact H
    clear H;have H:=H1;clear H1;simp only[Option.some.injEq,Prod.mk.injEq] at H;obtain ⟨rfl,rfl⟩:=H;go_wp2;go_ret2
    exact ⟨xs',by repeat (first|exact Drawn0.refl _|apply Drawn0.step)⟩
   ·
    replace c7:=Bool.eq_false_iff.mpr c7;subst c7;have H1:((spec_cuBits.f kj2 l1).bind fun t328=>((spec_cuCalm.f kj2 a0 t328).bind fun t329=>(some (t329,true))))=some (r1,r2):=by rw[if_neg (show ¬ (false=true) by decide)] at H;exact H
    clear H;have H:=H1;clear H1;replace H:=Option.bind_eq_some_iff.mp H;obtain ⟨t328,A80,H⟩:=H;replace H:((spec_cuCalm.f kj2 a0 t328).bind fun t329=>(some (t329,true)))=some (r1,r2):=H;have A8:=am' A80;clear A80;replace H:=Option.bind_eq_some_iff.mp H;obtain ⟨t329,A90,H⟩:=H;replace H:(some (t329,true))=some (r1,r2):=H;have A9:=am' A90;clear A90;simp only[Option.some.injEq,Prod.mk.injEq] at H;obtain ⟨rfl,rfl⟩:=H;go_wp2_with (first|((with_reducible refine gate_callee (f:=57) rfl ?_);refine goesL_ (some 19) rfl rfl Try.func57 xk' rfl #[.slice A1 l1.length c1] rfl xl' ?_;(with_reducible refine (spec_cuBits.calls kj2 _ _ l1 t328 _ ?side1 ?side2 A8.out).mono ?_);(case side1=>repeat (first|exact HR1.out|(with_reducible refine ca' ?_ _)|(with_reducible refine cn' ?_ _)|(with_reducible refine cd' ?_)));(case side2=>exact HC1.out);rintro e w' ⟨rfl,⟨nd,rfl⟩⟩;refine ⟨_,rfl,?_⟩)|((with_reducible refine gate_callee (f:=59) rfl ?_);refine goesL_ (some 20) rfl rfl Try.func59 xk' rfl #[.int .i64 a0, .int .i64 t328] rfl xl' ?_;(with_reducible refine (spec_cuCalm.calls kj2 a0 t328 t329 _ A9.out).mono ?_);rintro e w' ⟨rfl,⟨nd,rfl⟩⟩;refine ⟨_,rfl,?_⟩));go_ret2
    exact ⟨xs',by repeat (first|exact Drawn0.refl _|apply Drawn0.step)⟩
def laws_hHas.l0:Nat→Int→List Int→Int→Int→Option (Bool)
 | 0,_,_,_,_=>none
 | k+1,x1,x7,x8,x9=>if x9 < x8 then (if 0≤x9 then (if x9 < (x7.length:Int) then (if (rd x7 x9)=x1 then (some true) else (laws_hHas.l0 k x1 x7 x8 (wrap64 (x9+1)))) else (none)) else (none)) else (some false)
def laws_hHas.f (k:Nat) (l0:List Int) (a1:Int):Option (Bool):=laws_hHas.l0 k a1 l0 (l0.length:Int) 0
theorem laws_hHas.mono_l:∀ k,(∀ y0 y1 y2 y3,LeO (laws_hHas.l0 k y0 y1 y2 y3) (laws_hHas.l0 (k+1) y0 y1 y2 y3))
 | 0=>fun _ _ _ _ r h=>by simp[laws_hHas.l0] at h
 | k+1=>by
  have ih0:=laws_hHas.mono_l k
  ·
   intro y0 y1 y2 y3;unfold laws_hHas.l0
   repeat' first
   | (with_reducible exact ih0 _ _ _ _)
   | (with_reducible exact LeO.refl _)
   | (with_reducible exact LeO.none _)
   | (with_reducible refine LeO.ite ?_ ?_)
   | (with_reducible refine LeO.bind ?_ (fun _=>?_))
   | exact ih0 _ _ _ _
   | exact LeO.none _
   | refine LeO.ite ?_ ?_
   | refine LeO.bind ?_ (fun _=>?_)
theorem laws_hHas.mono:∀ a0 a1 k,LeO (laws_hHas.f k a0 a1) (laws_hHas.f (k+1) a0 a1):=by
 intro a0 a1 k;have ih0:=laws_hHas.mono_l k
 unfold laws_hHas.f
 repeat' first
   | (with_reducible exact ih0 _ _ _ _)
   | (with_reducible exact LeO.refl _)
   | (with_reducible exact LeO.none _)
   | (with_reducible refine LeO.ite ?_ ?_)
   | (with_reducible refine LeO.bind ?_ (fun _=>?_))
   | exact ih0 _ _ _ _
   | exact LeO.none _
   | refine LeO.ite ?_ ?_
   | refine LeO.bind ?_ (fun _=>?_)
set_option maxHeartbeats 8000000 in
set_option maxRecDepth 100000 in
theorem laws_hHas.calls (k:Nat) (A0:Option Addr) (c0:Nat) (l0:List Int) (a1:Int) (r:Bool) (w:World) (hr0:Kd.C (Kd.int .i64) w A0 l0.length l0) (hc0:l0.length≤c0) (h:laws_hHas.f k l0 a1=some r) :
  Calls Try.prog 27 #[.slice A0 l0.length c0, .int .i64 a1] w fun e w'=>e = .returned (.bool r)∧Drawn0 w w':=by
 have HR0:=am' hr0
 have HC0:=am' hc0
 clear hr0 hc0;have H:(laws_hHas.l0 k a1 l0 (l0.length:Int) 0)=some r:=h
 clear h;have H':=am' H
 clear H;go_enter Try.func27,Try.ntmps27
 go_wp2
 go_loopg [9] k (fun kq v9 w'=>∃ (x9_1:Int),v9 = .int .i64 x9_1∧Aside0 (laws_hHas.l0 kq a1 l0 (l0.length:Int) x9_1=some r)∧Aside0 (kq≤k)∧Drawn0 w w')
 case atStart=>exact ⟨(0),xs',H',⟨Nat.le_refl _⟩,by repeat (first|exact Drawn0.refl _|apply Drawn0.step)⟩
 case round =>
  clear H';try clear c2
  try clear p2
  obtain ⟨x9_1,rfl,HA,HK1,⟨m1,rfl⟩⟩:=hrel;cases gk with
  | zero=>exact absurd HA.out (by simp[laws_hHas.l0])
  | succ k1 =>
   have H:=HA.out;clear HA;simp only[laws_hHas.l0] at H;by_cases c3:x9_1 < (l0.length:Int)
   ·
    rw[if_pos c3] at H;have c3b0:decide (x9_1 < (l0.length:Int))=true:=dt' c3;clear c3;by_cases c4:0≤x9_1
    ·
     rw[if_pos c4] at H;have c4b0:decide (0≤x9_1)=true:=dt' c4;clear c4;by_cases c5:x9_1 < (l0.length:Int)
     ·
      rw[if_pos c5] at H;have c5b0:decide (x9_1 < (l0.length:Int))=true:=dt' c5;clear c5;by_cases c6:(rd l0 x9_1)=a1
      ·
       rw[if_pos c6] at H;have c6b0:((rd l0 x9_1) == a1)=true:=beq_iff_eq.mpr c6;have c6b1:((rd l0 x9_1) != a1)=false:=bne_eq_false_iff_eq.mpr c6;clear c6;obtain rfl:=os' H;have p330:0≤(x9_1:Int):=od' xa';have q330:x9_1 < (l0.length:Int):=od' xa';obtain ⟨ad330,e330,hx330_0⟩:=Kd.at_int HR0.out x9_1 p330 q330;cases e330;replace p330:=eq_true p330;replace q330:=eq_true q330;go_wp2;go_ret
       exact ⟨xs',by repeat (first|exact Drawn0.refl _|apply Drawn0.step)⟩
      ·
       rw[if_neg c6] at H;have c6b0:((rd l0 x9_1) == a1)=false:=beq_eq_false_iff_ne.mpr c6;have c6b1:((rd l0 x9_1) != a1)=true:=bne_iff_ne.mpr c6;have H':=am' H;clear H;have p330:0≤(x9_1:Int):=od' xa';have q330:x9_1 < (l0.length:Int):=od' xa';obtain ⟨ad330,e330,hx330_0⟩:=Kd.at_int HR0.out x9_1 p330 q330;cases e330;replace p330:=eq_true p330;replace q330:=eq_true q330;go_wp2;go_roundg k1
       case measure=>have:=HK1.out;omega
       case rel=>exact ⟨(wrap64 (x9_1+1)),xs',H',⟨by have:=HK1.out;omega⟩,by repeat (first|exact Drawn0.refl _|apply Drawn0.step)⟩
     ·
      rw[if_neg c5] at H;exact absurd H (by simp)
    ·
     rw[if_neg c4] at H;exact absurd H (by simp)
   ·
    rw[if_neg c3] at H;have c3b0:decide (x9_1 < (l0.length:Int))=false:=df' c3;clear c3;obtain rfl:=os' H;go_wp2;go_ret
    exact ⟨xs',by repeat (first|exact Drawn0.refl _|apply Drawn0.step)⟩
end Go.Proofs.Ytabhhkiipilghaa.C2
