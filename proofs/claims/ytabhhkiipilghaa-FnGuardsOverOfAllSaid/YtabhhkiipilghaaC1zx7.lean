import Derived.Test.YtabhhkiipilghaaC1zx0
import Derived.Test.YtabhhkiipilghaaC1zx2
import Derived.Test.YtabhhkiipilghaaC1zx4
import Derived.Test.YtabhhkiipilghaaC1zx5
import Derived.Test.YtabhhkiipilghaaC1zAl
namespace Go.Proofs.Ytabhhkiipilghaa.C1
open Go.RowKit Go.Proofs.YtabhhkiipilghaaW.PrintWords Go.Proofs.YtabhhkiipilghaaW.PrintLast Go.Proofs.YtabhhkiipilghaaW.PrintMore Go.Proofs.Ytabhhkiipilghaa.H
attribute [local go_sem] max2_int min2_int max_two min_two max_three min_three max_four min_four
set_option linter.unusedVariables false
set_option linter.unusedSimpArgs false
def impl_FewestForGuards.f (k:Nat) (a0 a1 a2:Int):Option (Int × Bool):=(impl_guarded_costs.f k a0 a1 a2).bind fun p=>if p.2=true then some (rd p.1 0,true) else some (0,false)
theorem impl_FewestForGuards.mono:∀ a0 a1 a2 k,LeO (impl_FewestForGuards.f k a0 a1 a2) (impl_FewestForGuards.f (k+1) a0 a1 a2):=by
 intro a0 a1 a2 k;unfold impl_FewestForGuards.f
 exact LeO.bind (impl_guarded_costs.mono _ _ _ _) (fun _=>LeO.refl _)
set_option maxHeartbeats 2000000 in
set_option maxRecDepth 100000 in
theorem impl_FewestForGuards.calls (k:Nat) (a0:Int) (a1:Int) (a2:Int) (r1:Int) (r2:Bool) (w:World) (h:impl_FewestForGuards.f k a0 a1 a2=some (r1,r2)) :
  Calls Try.prog 7 #[.int .i64 a0, .int .i64 a1, .int .i64 a2] w fun e w'=>e = .returned (.tuple #[.int .i64 r1, .bool r2])∧Below w.heap.size w w':=by
 have hu:=Try.underlying52
 have hug:=Try.underlying49
 unfold impl_FewestForGuards.f at h
 obtain ⟨⟨r,ok⟩,hc,h⟩:=Option.bind_eq_some_iff.mp h
 have HC:=am' (impl_guarded_costs.calls k a0 a1 a2 r ok w hc)
 clear hc;cases ok with
 | false =>
  simp only[Bool.false_eq_true,if_false,Option.some.injEq,Prod.mk.injEq] at h;obtain ⟨rfl,rfl⟩:=h;go_enter Try.func7,Try.ntmps7;go_wp2_with (go_at_call 28;refine HC.out.mono ?_;rintro e w2 ⟨pg,v,rfl,hpg,hr,hl,hb⟩;obtain ⟨Av,cv,rfl⟩:=Kd.R_slice hr;have HB:=am' hb;clear hpg hr hl hb);go_ret2
  exact ⟨rfl,ba' HB.out _⟩
 | true =>
  simp only[if_true,Option.some.injEq,Prod.mk.injEq] at h;obtain ⟨rfl,rfl⟩:=h;go_enter Try.func7,Try.ntmps7;obtain ⟨dv,hdv⟩:∃ x,x=rd r 0:=⟨_,rfl⟩
  rw[← hdv];have HDV:=am' hdv;clear hdv;go_wp2_with fail;refine HC.out.mono ?_
  rintro e w2 ⟨pg,v,rfl,hpg,hr,hl,hb⟩
  have hl:=hl (by first|rfl|trivial);obtain ⟨gd,cd,hv,_⟩:=Kd.R_form hr (by omega);subst hv;have hl0:(0:Int) < (r.length:Int):=by omega
  have hx0:w2.cell? ⟨gd,0,none⟩=some (.int .i64 dv):=(by have h1:=(Kd.R_celln 0 hr 0 (by omega) (by omega)).1;rw[HDV.out];simpa [rd,rdOf] using h1)
  have hy0:∀ o,(w2.alloc o).cell? ⟨gd,0,none⟩=some (.int .i64 dv):=(fun o=>((ba' (Below.refl w2.heap.size w2) o).cell (bl' w2 _ hx0)).trans hx0)
  have HB:=am' hb;clear hpg hr hl hb;go_wp2;go_ret2
  exact ⟨rfl,ba' HB.out _⟩
def spec_FewestForGuards.j0:Nat→Int→Int→Int→Bool→Option (Int × Bool)
 | 0,_,_,_,_=>none
 | k+1,x0,x1,x2,x19=>if x19=true then (some (0,false)) else ((spec_cuHome.f k x0 x1 x2).bind fun t156=>(if 0 < (t156.length:Int) then (if (rd t156 0) < 0 then (some (0,false)) else (some (rd t156 0,true))) else (none)))
def spec_FewestForGuards.f (k:Nat) (a0:Int) (a1:Int) (a2:Int):Option (Int × Bool):=(spec_cuSides.f a0 a1 a2).bind fun t154=>(if t154=true then ((spec_cuHeld.f a0 a1).bind fun t155=>(spec_FewestForGuards.j0 k a0 a1 a2 (!t155))) else (spec_FewestForGuards.j0 k a0 a1 a2 true))
theorem spec_FewestForGuards.mono_l:∀ k,(∀ y0 y1 y2 y3,LeO (spec_FewestForGuards.j0 k y0 y1 y2 y3) (spec_FewestForGuards.j0 (k+1) y0 y1 y2 y3))
 | 0=>fun _ _ _ _ r h=>by simp[spec_FewestForGuards.j0] at h
 | k+1=>by
  have ih0:=spec_FewestForGuards.mono_l k
  ·
   intro y0 y1 y2 y3;unfold spec_FewestForGuards.j0
   repeat' first
   | (with_reducible exact ih0 _ _ _ _)
   | (with_reducible exact spec_cuHome.mono _ _ _ _)
   | (with_reducible exact LeO.refl _)
   | (with_reducible exact LeO.none _)
   | (with_reducible refine LeO.ite ?_ ?_)
   | (with_reducible refine LeO.bind ?_ (fun _=>?_))
   | exact ih0 _ _ _ _
   | exact spec_cuHome.mono _ _ _ _
   | exact LeO.none _
   | refine LeO.ite ?_ ?_
   | refine LeO.bind ?_ (fun _=>?_)
theorem spec_FewestForGuards.mono:∀ a0 a1 a2 k,LeO (spec_FewestForGuards.f k a0 a1 a2) (spec_FewestForGuards.f (k+1) a0 a1 a2):=by
 intro a0 a1 a2 k;have ih0:=spec_FewestForGuards.mono_l k
 unfold spec_FewestForGuards.f
 repeat' first
   | (with_reducible exact ih0 _ _ _ _)
   | (with_reducible exact spec_cuHome.mono _ _ _ _)
   | (with_reducible exact LeO.refl _)
   | (with_reducible exact LeO.none _)
   | (with_reducible refine LeO.ite ?_ ?_)
   | (with_reducible refine LeO.bind ?_ (fun _=>?_))
   | exact ih0 _ _ _ _
   | exact spec_cuHome.mono _ _ _ _
   | exact LeO.none _
   | refine LeO.ite ?_ ?_
   | refine LeO.bind ?_ (fun _=>?_)
set_option maxHeartbeats 8000000 in
set_option maxRecDepth 100000 in
theorem spec_FewestForGuards.calls (k:Nat) (a0:Int) (a1:Int) (a2:Int) (r1:Int) (r2:Bool) (w:World) (h:spec_FewestForGuards.f k a0 a1 a2=some (r1,r2)) :
  Calls Try.prog 8 #[.int .i64 a0, .int .i64 a1, .int .i64 a2] w fun e w'=>e = .returned (.tuple #[.int .i64 r1, .bool r2])∧Below w.heap.size w w':=by
 have HB:=am' (Below.refl w.heap.size w)
 have H:((spec_cuSides.f a0 a1 a2).bind fun t154=>(if t154=true then ((spec_cuHeld.f a0 a1).bind fun t155=>(spec_FewestForGuards.j0 k a0 a1 a2 (!t155))) else (spec_FewestForGuards.j0 k a0 a1 a2 true)))=some (r1,r2):=h
 clear h;have HC4:=am' H
 clear H;go_enter Try.func8,Try.ntmps8
 go_upto_region 1 with (fail)
 go_cut [19] (fun v19 wc=>∃ (kq:Nat) (x19_3:Bool),v19 = .bool x19_3∧Aside0 (spec_FewestForGuards.j0 kq a0 a1 a2 x19_3=some (r1,r2))∧Aside0 (kq≤k)∧Aside0 (Below w.heap.size w wc))
 case first =>
  have H:=HC4.out;clear HC4;replace H:=Option.bind_eq_some_iff.mp H;obtain ⟨t154,A50,H⟩:=H;replace H:(if t154=true then ((spec_cuHeld.f a0 a1).bind fun t155=>(spec_FewestForGuards.j0 k a0 a1 a2 (!t155))) else (spec_FewestForGuards.j0 k a0 a1 a2 true))=some (r1,r2):=H;have A5:=am' A50;clear A50;by_cases c6:t154=true
  ·
   subst c6;have H1:((spec_cuHeld.f a0 a1).bind fun t155=>(spec_FewestForGuards.j0 k a0 a1 a2 (!t155)))=some (r1,r2):=by rw[if_pos rfl] at H;exact H
   clear H;have H:=H1;clear H1;replace H:=Option.bind_eq_some_iff.mp H;obtain ⟨t155,A70,H⟩:=H;replace H:(spec_FewestForGuards.j0 k a0 a1 a2 (!t155))=some (r1,r2):=H;have A7:=am' A70;clear A70;have H':=am' H;clear H;go_wp2_with (first|((with_reducible refine gate_callee (f:=30) rfl ?_);refine goesL_ (some 12) rfl rfl Try.func30 xk' rfl #[.int .i64 a0, .int .i64 a1, .int .i64 a2] rfl xl' ?_;(with_reducible refine (spec_cuSides.calls a0 a1 a2 true _ A5.out).mono ?_);rintro e w' ⟨rfl,⟨nd,rfl⟩⟩;refine ⟨_,rfl,?_⟩)|(go_at_call 31;(with_reducible refine (spec_cuHeld.calls a0 a1 t155 _ A7.out).mono ?_);rintro e w' ⟨rfl,⟨nd,rfl⟩⟩));go_meet
   case rel=>exact ⟨_,(!t155),xs',H',⟨by first|omega|exact Nat.le_refl _⟩,⟨xb'⟩⟩
  ·
   replace c6:=Bool.eq_false_iff.mpr c6;subst c6;have H1:(spec_FewestForGuards.j0 k a0 a1 a2 true)=some (r1,r2):=by rw[if_neg (show ¬ (false=true) by decide)] at H;exact H
   clear H;have H:=H1;clear H1;have H':=am' H;clear H;go_wp2_with (first|((with_reducible refine gate_callee (f:=30) rfl ?_);refine goesL_ (some 12) rfl rfl Try.func30 xk' rfl #[.int .i64 a0, .int .i64 a1, .int .i64 a2] rfl xl' ?_;(with_reducible refine (spec_cuSides.calls a0 a1 a2 false _ A5.out).mono ?_);rintro e w' ⟨rfl,⟨nd,rfl⟩⟩;refine ⟨_,rfl,?_⟩));go_meet
   case rel=>exact ⟨_,(true),xs',H',⟨by first|omega|exact Nat.le_refl _⟩,⟨xb'⟩⟩
 case rest =>
  clear HC4;try clear p2
  try clear c3
  try clear c6
  obtain ⟨kq,x19_3,rfl,HA,HJ3,HB⟩:=hcut;cases kq with
  | zero=>exact absurd HA.out (by simp[spec_FewestForGuards.j0])
  | succ kj3 =>
   have H:=HA.out;clear HA;simp only[spec_FewestForGuards.j0] at H;by_cases c8:x19_3=true
   ·
    subst c8;have H1:(some (0,false))=some (r1,r2):=by rw[if_pos rfl] at H;exact H
    clear H;have H:=H1;clear H1;simp only[Option.some.injEq,Prod.mk.injEq] at H;obtain ⟨rfl,rfl⟩:=H;go_wp2;go_ret2
    exact ⟨by first|rfl|(simp[errW_none,errW_some] <;> rfl)|(simp[*,errW_none,errW_some] <;> rfl),xb'⟩
   ·
    replace c8:=Bool.eq_false_iff.mpr c8;subst c8;have H1:((spec_cuHome.f kj3 a0 a1 a2).bind fun t156=>(if 0 < (t156.length:Int) then (if (rd t156 0) < 0 then (some (0,false)) else (some (rd t156 0,true))) else (none)))=some (r1,r2):=by rw[if_neg (show ¬ (false=true) by decide)] at H;exact H
    clear H;have H:=H1;clear H1;replace H:=Option.bind_eq_some_iff.mp H;obtain ⟨t156,A90,H⟩:=H;replace H:(if 0 < (t156.length:Int) then (if (rd t156 0) < 0 then (some (0,false)) else (some (rd t156 0,true))) else (none))=some (r1,r2):=H;have A9:=am' A90;clear A90;by_cases c10:0 < (t156.length:Int)
    ·
     rw[if_pos c10] at H;have c10b0:decide (0 < (t156.length:Int))=true:=dt' c10;have c10b1:decide (0 < t156.length)=true:=dt' (by omega);clear c10;by_cases c11:(rd t156 0) < 0
     ·
      rw[if_pos c11] at H;have c11b0:decide ((rd t156 0) < 0)=true:=dt' c11;clear c11;simp only[Option.some.injEq,Prod.mk.injEq] at H;obtain ⟨rfl,rfl⟩:=H;go_wp2_with (first|((with_reducible refine gate_callee (f:=32) rfl ?_);refine goesL_ (some 23) rfl rfl Try.func32 xk' rfl #[.int .i64 a0, .int .i64 a1, .int .i64 a2] rfl xl' ?_;(with_reducible refine (spec_cuHome.calls kj3 a0 a1 a2 t156 _ A9.out).mono ?_);rintro e w12 ⟨v157,rfl,ho0,hb⟩;refine ⟨_,rfl,?_⟩;have n0_:=am' (Kd.R_lower ho0 (bz' xb'));have n1_:=am' (bt' xb' hb);clear HB;have HO158:=n0_;have HB:=n1_;clear n0_ n1_;(try clear hb);(try clear hb2);(try clear hk);(try clear hi);(try clear ho0);obtain ⟨Ao13,co13,eo13⟩:=Kd.R_slice HO158.out;subst eo13;have p159:0≤(0:Int):=(by omega);have q159:0 < (t156.length:Int):=od' xa';obtain ⟨ad159,e159,hx159_0⟩:=Kd.at_int (Kd.R_reads' HO158.out).2.2 0 p159 q159;cases e159;have qi159:(0 < t156.length)=True:=eq_true (by omega);(try rw [show ((0:Int)).toNat=0 from rfl] at hx159_0);(try rw [Addr.add_zero'] at hx159_0);replace p159:=eq_true p159;replace q159:=eq_true q159));go_ret2
      exact ⟨by first|rfl|(simp[errW_none,errW_some] <;> rfl)|(simp[*,errW_none,errW_some] <;> rfl),xb'⟩
     ·
      rw[if_neg c11] at H;have c11b0:decide ((rd t156 0) < 0)=false:=df' c11;clear c11;simp only[Option.some.injEq,Prod.mk.injEq] at H;obtain ⟨rfl,rfl⟩:=H;go_wp2_with (first|((with_reducible refine gate_callee (f:=32) rfl ?_);refine goesL_ (some 23) rfl rfl Try.func32 xk' rfl #[.int .i64 a0, .int .i64 a1, .int .i64 a2] rfl xl' ?_;(with_reducible refine (spec_cuHome.calls kj3 a0 a1 a2 t156 _ A9.out).mono ?_);rintro e w14 ⟨v157,rfl,ho0,hb⟩;refine ⟨_,rfl,?_⟩;have n0_:=am' (Kd.R_lower ho0 (bz' xb'));have n1_:=am' (bt' xb' hb);clear HB;have HO158:=n0_;have HB:=n1_;clear n0_ n1_;(try clear hb);(try clear hb2);(try clear hk);(try clear hi);(try clear ho0);obtain ⟨Ao15,co15,eo15⟩:=Kd.R_slice HO158.out;subst eo15;have p159:0≤(0:Int):=(by omega);have q159:0 < (t156.length:Int):=od' xa';obtain ⟨ad159,e159,hx159_0⟩:=Kd.at_int (Kd.R_reads' HO158.out).2.2 0 p159 q159;cases e159;have qi159:(0 < t156.length)=True:=eq_true (by omega);(try rw [show ((0:Int)).toNat=0 from rfl] at hx159_0);(try rw [Addr.add_zero'] at hx159_0);replace p159:=eq_true p159;replace q159:=eq_true q159;have p160:0≤(0:Int):=(by omega);have q160:0 < (t156.length:Int):=od' xa';obtain ⟨ad160,e160,hx160_0⟩:=Kd.at_int (Kd.R_reads' HO158.out).2.2 0 p160 q160;obtain rfl:ad159=ad160:=(by injection e160);have qi160:(0 < t156.length)=True:=eq_true (by omega);(try rw [show ((0:Int)).toNat=0 from rfl] at hx160_0);(try rw [Addr.add_zero'] at hx160_0);replace p160:=eq_true p160;replace q160:=eq_true q160));go_ret2
      exact ⟨by first|rfl|(simp[errW_none,errW_some] <;> rfl)|(simp[*,errW_none,errW_some] <;> rfl),xb'⟩
    ·
     rw[if_neg c10] at H;exact absurd H (by simp)
def laws_hSame.l0:Nat→List Int→List Int→Int→Int→Option (Bool)
 | 0,_,_,_,_=>none
 | k+1,x0,x1,x12,x13=>if x13 < x12 then (if 0≤x13 then (if x13 < (x0.length:Int) then (if x13 < (x1.length:Int) then (if (rd x0 x13)=(rd x1 x13) then (laws_hSame.l0 k x0 x1 x12 (wrap64 (x13+1))) else (some false)) else (none)) else (none)) else (none)) else (some true)
def laws_hSame.f (k:Nat) (l0:List Int) (l1:List Int):Option (Bool):=if (l0.length:Int)=(l1.length:Int) then (laws_hSame.l0 k l0 l1 (l0.length:Int) 0) else (some false)
theorem laws_hSame.mono_l:∀ k,(∀ y0 y1 y2 y3,LeO (laws_hSame.l0 k y0 y1 y2 y3) (laws_hSame.l0 (k+1) y0 y1 y2 y3))
 | 0=>fun _ _ _ _ r h=>by simp[laws_hSame.l0] at h
 | k+1=>by
  have ih0:=laws_hSame.mono_l k
  ·
   intro y0 y1 y2 y3;unfold laws_hSame.l0
   repeat' first
   | (with_reducible exact ih0 _ _ _ _)
   | (with_reducible exact LeO.refl _)
   | (with_reducible exact LeO.none _)
   | (with_reducible refine LeO.ite ?_ ?_)
   | (with_reducible refine LeO.bind ?_ (fun _=>?_))
   | exact ih0 _ _ _ _
   | exact LeO.none _
   | refine LeO.ite ?_ ?_
   | refine LeO.bind ?_ (fun _=>?_)
theorem laws_hSame.mono:∀ a0 a1 k,LeO (laws_hSame.f k a0 a1) (laws_hSame.f (k+1) a0 a1):=by
 intro a0 a1 k;have ih0:=laws_hSame.mono_l k
 unfold laws_hSame.f
 repeat' first
   | (with_reducible exact ih0 _ _ _ _)
   | (with_reducible exact LeO.refl _)
   | (with_reducible exact LeO.none _)
   | (with_reducible refine LeO.ite ?_ ?_)
   | (with_reducible refine LeO.bind ?_ (fun _=>?_))
   | exact ih0 _ _ _ _
   | exact LeO.none _
   | refine LeO.ite ?_ ?_
   | refine LeO.bind ?_ (fun _=>?_)
set_option maxHeartbeats 8000000 in
set_option maxRecDepth 100000 in
theorem laws_hSame.calls (k:Nat) (A0:Option Addr) (c0:Nat) (l0:List Int) (A1:Option Addr) (c1:Nat) (l1:List Int) (r:Bool) (w:World) (hr0:Kd.C (Kd.int .i64) w A0 l0.length l0) (hc0:l0.length≤c0) (hr1:Kd.C (Kd.int .i64) w A1 l1.length l1) (hc1:l1.length≤c1) (h:laws_hSame.f k l0 l1=some r) :
  Calls Try.prog 26 #[.slice A0 l0.length c0, .slice A1 l1.length c1] w fun e w'=>e = .returned (.bool r)∧Drawn0 w w':=by
 have HR0:=am' hr0
 have HC0:=am' hc0
 clear hr0 hc0;have HR1:=am' hr1
 have HC1:=am' hc1
 clear hr1 hc1;have H:(if (l0.length:Int)=(l1.length:Int) then (laws_hSame.l0 k l0 l1 (l0.length:Int) 0) else (some false))=some r:=h
 clear h;by_cases c3:(l0.length:Int)=(l1.length:Int)
 ·
  rw[if_pos c3] at H;have c3b0:((l0.length:Int) == (l1.length:Int))=true:=beq_iff_eq.mpr c3;have c3b1:((l0.length:Int) != (l1.length:Int))=false:=bne_eq_false_iff_eq.mpr c3;have c3b2:(l0.length == l1.length)=true:=by first|simpa using c3|(simp at c3 ⊢;omega)
  clear c3;have H':=am' H;clear H;go_enter Try.func26,Try.ntmps26;go_wp2
  repeat (go_quiet (fail);try go_wp2)
  go_loopg [13] k (fun kq v13 w'=>∃ (x13_1:Int),v13 = .int .i64 x13_1∧Aside0 (laws_hSame.l0 kq l0 l1 (l0.length:Int) x13_1=some r)∧Aside0 (kq≤k)∧Drawn0 w w')
  case atStart=>exact ⟨(0),xs',H',⟨Nat.le_refl _⟩,by repeat (first|exact Drawn0.refl _|apply Drawn0.step)⟩
  case round =>
   clear H';try clear c1
   try clear c2
   try clear p2
   try clear c3
   try clear c3b0
   try clear c3b1
   try clear c3b2
   obtain ⟨x13_1,rfl,HA,HK1,⟨m1,rfl⟩⟩:=hrel;cases gk with
   | zero=>exact absurd HA.out (by simp[laws_hSame.l0])
   | succ k1 =>
    have H:=HA.out;clear HA;simp only[laws_hSame.l0] at H;by_cases c4:x13_1 < (l0.length:Int)
    ·
     rw[if_pos c4] at H;have c4b0:decide (x13_1 < (l0.length:Int))=true:=dt' c4;clear c4;by_cases c5:0≤x13_1
     ·
      rw[if_pos c5] at H;have c5b0:decide (0≤x13_1)=true:=dt' c5;clear c5;by_cases c6:x13_1 < (l0.length:Int)
      ·
       rw[if_pos c6] at H;have c6b0:decide (x13_1 < (l0.length:Int))=true:=dt' c6;clear c6;by_cases c7:x13_1 < (l1.length:Int)
       ·
        rw[if_pos c7] at H;have c7b0:decide (x13_1 < (l1.length:Int))=true:=dt' c7;clear c7;by_cases c8:(rd l0 x13_1)=(rd l1 x13_1)
        ·
         rw[if_pos c8] at H;have c8b0:((rd l0 x13_1) == (rd l1 x13_1))=true:=beq_iff_eq.mpr c8;have c8b1:((rd l0 x13_1) != (rd l1 x13_1))=false:=bne_eq_false_iff_eq.mpr c8;clear c8;have H':=am' H;clear H;have p161:0≤(x13_1:Int):=od' xa';have q161:x13_1 < (l0.length:Int):=od' xa';obtain ⟨ad161,e161,hx161_0⟩:=Kd.at_int HR0.out x13_1 p161 q161;cases e161;replace p161:=eq_true p161;replace q161:=eq_true q161;have p162:0≤(x13_1:Int):=od' xa';have q162:x13_1 < (l1.length:Int):=od' xa';obtain ⟨ad162,e162,hx162_0⟩:=Kd.at_int HR1.out x13_1 p162 q162;cases e162;replace p162:=eq_true p162;replace q162:=eq_true q162;go_wp2
         repeat (go_quiet (fail);try go_wp2)
         go_roundg k1
         case measure=>have:=HK1.out;omega
         case rel=>exact ⟨(wrap64 (x13_1+1)),xs',H',⟨by have:=HK1.out;omega⟩,by repeat (first|exact Drawn0.refl _|apply Drawn0.step)⟩
        ·
         rw[if_neg c8] at H;have c8b0:((rd l0 x13_1) == (rd l1 x13_1))=false:=beq_eq_false_iff_ne.mpr c8;have c8b1:((rd l0 x13_1) != (rd l1 x13_1))=true:=bne_iff_ne.mpr c8;obtain rfl:=os' H;have p161:0≤(x13_1:Int):=od' xa';have q161:x13_1 < (l0.length:Int):=od' xa';obtain ⟨ad161,e161,hx161_0⟩:=Kd.at_int HR0.out x13_1 p161 q161;cases e161;replace p161:=eq_true p161;replace q161:=eq_true q161;have p162:0≤(x13_1:Int):=od' xa';have q162:x13_1 < (l1.length:Int):=od' xa';obtain ⟨ad162,e162,hx162_0⟩:=Kd.at_int HR1.out x13_1 p162 q162;cases e162;replace p162:=eq_true p162;replace q162:=eq_true q162;go_wp2
         repeat (go_quiet (fail);try go_wp2)
         go_ret
         exact ⟨xs',by repeat (first|exact Drawn0.refl _|apply Drawn0.step)⟩
       ·
        rw[if_neg c7] at H;exact absurd H (by simp)
      ·
       rw[if_neg c6] at H;exact absurd H (by simp)
     ·
      rw[if_neg c5] at H;exact absurd H (by simp)
    ·
     rw[if_neg c4] at H;have c4b0:decide (x13_1 < (l0.length:Int))=false:=df' c4;clear c4;obtain rfl:=os' H;go_wp2
     repeat (go_quiet (fail);try go_wp2)
     go_ret
     exact ⟨xs',by repeat (first|exact Drawn0.refl _|apply Drawn0.step)⟩
 ·
  rw[if_neg c3] at H;have c3b0:((l0.length:Int) == (l1.length:Int))=false:=beq_eq_false_iff_ne.mpr c3;have c3b1:((l0.length:Int) != (l1.length:Int))=true:=bne_iff_ne.mpr c3;have c3b2:(l0.length == l1.length)=false:=by first|simpa using c3|(simp at c3 ⊢;omega)
  obtain rfl:=os' H;go_enter Try.func26,Try.ntmps26;go_wp2
  repeat (go_quiet (fail);try go_wp2)
  go_ret
  exact ⟨xs',by repeat (first|exact Drawn0.refl _|apply Drawn0.step)⟩
def laws_hRows.l0:Nat→List (List Int)→List (List Int)→Int→Int→Option (Bool)
 | 0,_,_,_,_=>none
 | k+1,x0,x1,x12,x13=>if x13 < x12 then (if 0≤x13 then (if x13 < (x0.length:Int) then (if x13 < (x1.length:Int) then ((laws_hSame.f k (rd_L1 x0 x13) (rd_L1 x1 x13)).bind fun t165=>(if t165=true then (laws_hRows.l0 k x0 x1 x12 (wrap64 (x13+1))) else (some false))) else (none)) else (none)) else (none)) else (some true)
def laws_hRows.f (k:Nat) (l0:List (List Int)) (l1:List (List Int)):Option (Bool):=if (l0.length:Int)=(l1.length:Int) then (laws_hRows.l0 k l0 l1 (l0.length:Int) 0) else (some false)
theorem laws_hRows.mono_l:∀ k,(∀ y0 y1 y2 y3,LeO (laws_hRows.l0 k y0 y1 y2 y3) (laws_hRows.l0 (k+1) y0 y1 y2 y3))
 | 0=>fun _ _ _ _ r h=>by simp[laws_hRows.l0] at h
 | k+1=>by
  have ih0:=laws_hRows.mono_l k
  ·
   intro y0 y1 y2 y3;unfold laws_hRows.l0
   repeat' first
   | (with_reducible exact ih0 _ _ _ _)
   | (with_reducible exact laws_hSame.mono _ _ _)
   | (with_reducible exact LeO.refl _)
   | (with_reducible exact LeO.none _)
   | (with_reducible refine LeO.ite ?_ ?_)
   | (with_reducible refine LeO.bind ?_ (fun _=>?_))
   | exact ih0 _ _ _ _
   | exact laws_hSame.mono _ _ _
   | exact LeO.none _
   | refine LeO.ite ?_ ?_
   | refine LeO.bind ?_ (fun _=>?_)
theorem laws_hRows.mono:∀ a0 a1 k,LeO (laws_hRows.f k a0 a1) (laws_hRows.f (k+1) a0 a1):=by
 intro a0 a1 k;have ih0:=laws_hRows.mono_l k
 unfold laws_hRows.f
 repeat' first
   | (with_reducible exact ih0 _ _ _ _)
   | (with_reducible exact laws_hSame.mono _ _ _)
   | (with_reducible exact LeO.refl _)
   | (with_reducible exact LeO.none _)
   | (with_reducible refine LeO.ite ?_ ?_)
   | (with_reducible refine LeO.bind ?_ (fun _=>?_))
   | exact ih0 _ _ _ _
   | exact laws_hSame.mono _ _ _
   | exact LeO.none _
   | refine LeO.ite ?_ ?_
   | refine LeO.bind ?_ (fun _=>?_)
set_option maxHeartbeats 8000000 in
set_option maxRecDepth 100000 in
theorem laws_hRows.calls (k:Nat) (A0:Option Addr) (c0:Nat) (l0:List (List Int)) (A1:Option Addr) (c1:Nat) (l1:List (List Int)) (r:Bool) (w:World) (hr0:Kd.C (Kd.slice 3 (Kd.int .i64)) w A0 l0.length l0) (hc0:l0.length≤c0) (hr1:Kd.C (Kd.slice 3 (Kd.int .i64)) w A1 l1.length l1) (hc1:l1.length≤c1) (h:laws_hRows.f k l0 l1=some r) :
  Calls Try.prog 9 #[.slice A0 l0.length c0, .slice A1 l1.length c1] w fun e w'=>e = .returned (.bool r)∧Drawn0 w w':=by
 have HR0:=am' hr0
 have HC0:=am' hc0
 clear hr0 hc0;have HR1:=am' hr1
 have HC1:=am' hc1
 clear hr1 hc1;have H:(if (l0.length:Int)=(l1.length:Int) then (laws_hRows.l0 k l0 l1 (l0.length:Int) 0) else (some false))=some r:=h
 clear h;by_cases c3:(l0.length:Int)=(l1.length:Int)
 ·
  rw[if_pos c3] at H;have c3b0:((l0.length:Int) == (l1.length:Int))=true:=beq_iff_eq.mpr c3;have c3b1:((l0.length:Int) != (l1.length:Int))=false:=bne_eq_false_iff_eq.mpr c3;have c3b2:(l0.length == l1.length)=true:=by first|simpa using c3|(simp at c3 ⊢;omega)
  clear c3;have H':=am' H;clear H;go_enter Try.func9,Try.ntmps9;go_wp2
  repeat (go_quiet (fail);try go_wp2)
  go_loopg [13] k (fun kq v13 w'=>∃ (x13_1:Int),v13 = .int .i64 x13_1∧Aside0 (laws_hRows.l0 kq l0 l1 (l0.length:Int) x13_1=some r)∧Aside0 (kq≤k)∧Drawn0 w w')
  case atStart=>exact ⟨(0),xs',H',⟨Nat.le_refl _⟩,by repeat (first|exact Drawn0.refl _|apply Drawn0.step)⟩
  case round =>
   clear H';try clear c1
   try clear p2
   try clear c3
   try clear c3b0
   try clear c3b1
   try clear c3b2
   obtain ⟨x13_1,rfl,HA,HK1,⟨m1,rfl⟩⟩:=hrel;cases gk with
   | zero=>exact absurd HA.out (by simp[laws_hRows.l0])
   | succ k1 =>
    have H:=HA.out;clear HA;simp only[laws_hRows.l0] at H;by_cases c4:x13_1 < (l0.length:Int)
    ·
     rw[if_pos c4] at H;have c4b0:decide (x13_1 < (l0.length:Int))=true:=dt' c4;clear c4;by_cases c5:0≤x13_1
     ·
      rw[if_pos c5] at H;have c5b0:decide (0≤x13_1)=true:=dt' c5;clear c5;by_cases c6:x13_1 < (l0.length:Int)
      ·
       rw[if_pos c6] at H;have c6b0:decide (x13_1 < (l0.length:Int))=true:=dt' c6;clear c6;by_cases c7:x13_1 < (l1.length:Int)
       ·
        rw[if_pos c7] at H;have c7b0:decide (x13_1 < (l1.length:Int))=true:=dt' c7;clear c7;replace H:=Option.bind_eq_some_iff.mp H;obtain ⟨t165,A80,H⟩:=H;replace H:(if t165=true then (laws_hRows.l0 k1 l0 l1 (l0.length:Int) (wrap64 (x13_1+1))) else (some false))=some r:=H;have A8:=am' A80;clear A80;by_cases c9:t165=true
        ·
         subst c9;have H1:(laws_hRows.l0 k1 l0 l1 (l0.length:Int) (wrap64 (x13_1+1)))=some r:=by rw[if_pos rfl] at H;exact H
         clear H;have H:=H1;clear H1;have H':=am' H;clear H;have p163:0≤(x13_1:Int):=od' xa';have q163:x13_1 < (l0.length:Int):=od' xa';obtain ⟨ad163,A163_0,c163_0,e163,hx163_0,hl163_0,hi163_0⟩:=at_L1 HR0.out x13_1 p163 q163;cases e163;have HR163_0:=am' hi163_0;have HC163_0:=am' hl163_0;clear hi163_0 hl163_0;replace p163:=eq_true p163;replace q163:=eq_true q163;have p164:0≤(x13_1:Int):=od' xa';have q164:x13_1 < (l1.length:Int):=od' xa';obtain ⟨ad164,A164_0,c164_0,e164,hx164_0,hl164_0,hi164_0⟩:=at_L1 HR1.out x13_1 p164 q164;cases e164;have HR164_0:=am' hi164_0;have HC164_0:=am' hl164_0;clear hi164_0 hl164_0;replace p164:=eq_true p164;replace q164:=eq_true q164;go_wp2_with (first|(go_at_call 26;(with_reducible refine (laws_hSame.calls k1 _ _ (rd_L1 l0 x13_1) _ _ (rd_L1 l1 x13_1) true _ ?side1 ?side2 ?side3 ?side4 A8.out).mono ?_);(case side1=>repeat (first|exact HR163_0.out|(with_reducible refine ca' ?_ _)|(with_reducible refine cn' ?_ _)|(with_reducible refine cd' ?_)));(case side2=>exact HC163_0.out);(case side3=>repeat (first|exact HR164_0.out|(with_reducible refine ca' ?_ _)|(with_reducible refine cn' ?_ _)|(with_reducible refine cd' ?_)));(case side4=>exact HC164_0.out);rintro e w' ⟨rfl,⟨nd,rfl⟩⟩;(try first|exact ⟨rfl,_,World.drewN_drewN _ _ _⟩|exact ⟨rfl,_,Eq.trans (World.drewN_drewN _ _ _) (congrArg (World.drewN _) (Nat.add_assoc _ _ _))⟩)))
         repeat (go_quiet (first|(go_at_call 26;(with_reducible refine (laws_hSame.calls k1 _ _ (rd_L1 l0 x13_1) _ _ (rd_L1 l1 x13_1) true _ ?side1 ?side2 ?side3 ?side4 A8.out).mono ?_);(case side1=>repeat (first|exact HR163_0.out|(with_reducible refine ca' ?_ _)|(with_reducible refine cn' ?_ _)|(with_reducible refine cd' ?_)));(case side2=>exact HC163_0.out);(case side3=>repeat (first|exact HR164_0.out|(with_reducible refine ca' ?_ _)|(with_reducible refine cn' ?_ _)|(with_reducible refine cd' ?_)));(case side4=>exact HC164_0.out);rintro e w' ⟨rfl,⟨nd,rfl⟩⟩;(try first|exact ⟨rfl,_,World.drewN_drewN _ _ _⟩|exact ⟨rfl,_,Eq.trans (World.drewN_drewN _ _ _) (congrArg (World.drewN _) (Nat.add_assoc _ _ _))⟩)));try go_wp2_with (first|(go_at_call 26;(with_reducible refine (laws_hSame.calls k1 _ _ (rd_L1 l0 x13_1) _ _ (rd_L1 l1 x13_1) true _ ?side1 ?side2 ?side3 ?side4 A8.out).mono ?_);(case side1=>repeat (first|exact HR163_0.out|(with_reducible refine ca' ?_ _)|(with_reducible refine cn' ?_ _)|(with_reducible refine cd' ?_)));(case side2=>exact HC163_0.out);(case side3=>repeat (first|exact HR164_0.out|(with_reducible refine ca' ?_ _)|(with_reducible refine cn' ?_ _)|(with_reducible refine cd' ?_)));(case side4=>exact HC164_0.out);rintro e w' ⟨rfl,⟨nd,rfl⟩⟩;(try first|exact ⟨rfl,_,World.drewN_drewN _ _ _⟩|exact ⟨rfl,_,Eq.trans (World.drewN_drewN _ _ _) (congrArg (World.drewN _) (Nat.add_assoc _ _ _))⟩))))
         go_roundg k1
         case measure=>have:=HK1.out;omega
         case rel=>exact ⟨(wrap64 (x13_1+1)),xs',H',⟨by have:=HK1.out;omega⟩,by repeat (first|exact Drawn0.refl _|apply Drawn0.step)⟩
        ·
         replace c9:=Bool.eq_false_iff.mpr c9;subst c9;have H1:(some false)=some r:=by rw[if_neg (show ¬ (false=true) by decide)] at H;exact H
         clear H;have H:=H1;clear H1;obtain rfl:=os' H;have p163:0≤(x13_1:Int):=od' xa';have q163:x13_1 < (l0.length:Int):=od' xa';obtain ⟨ad163,A163_0,c163_0,e163,hx163_0,hl163_0,hi163_0⟩:=at_L1 HR0.out x13_1 p163 q163;cases e163;have HR163_0:=am' hi163_0;have HC163_0:=am' hl163_0;clear hi163_0 hl163_0;replace p163:=eq_true p163;replace q163:=eq_true q163;have p164:0≤(x13_1:Int):=od' xa';have q164:x13_1 < (l1.length:Int):=od' xa';obtain ⟨ad164,A164_0,c164_0,e164,hx164_0,hl164_0,hi164_0⟩:=at_L1 HR1.out x13_1 p164 q164;cases e164;have HR164_0:=am' hi164_0;have HC164_0:=am' hl164_0;clear hi164_0 hl164_0;replace p164:=eq_true p164;replace q164:=eq_true q164;go_wp2_with (first|(go_at_call 26;(with_reducible refine (laws_hSame.calls k1 _ _ (rd_L1 l0 x13_1) _ _ (rd_L1 l1 x13_1) false _ ?side1 ?side2 ?side3 ?side4 A8.out).mono ?_);(case side1=>repeat (first|exact HR163_0.out|(with_reducible refine ca' ?_ _)|(with_reducible refine cn' ?_ _)|(with_reducible refine cd' ?_)));(case side2=>exact HC163_0.out);(case side3=>repeat (first|exact HR164_0.out|(with_reducible refine ca' ?_ _)|(with_reducible refine cn' ?_ _)|(with_reducible refine cd' ?_)));(case side4=>exact HC164_0.out);rintro e w' ⟨rfl,⟨nd,rfl⟩⟩;(try first|exact ⟨rfl,_,World.drewN_drewN _ _ _⟩|exact ⟨rfl,_,Eq.trans (World.drewN_drewN _ _ _) (congrArg (World.drewN _) (Nat.add_assoc _ _ _))⟩)))
         repeat (go_quiet (first|(go_at_call 26;(with_reducible refine (laws_hSame.calls k1 _ _ (rd_L1 l0 x13_1) _ _ (rd_L1 l1 x13_1) false _ ?side1 ?side2 ?side3 ?side4 A8.out).mono ?_);(case side1=>repeat (first|exact HR163_0.out|(with_reducible refine ca' ?_ _)|(with_reducible refine cn' ?_ _)|(with_reducible refine cd' ?_)));(case side2=>exact HC163_0.out);(case side3=>repeat (first|exact HR164_0.out|(with_reducible refine ca' ?_ _)|(with_reducible refine cn' ?_ _)|(with_reducible refine cd' ?_)));(case side4=>exact HC164_0.out);rintro e w' ⟨rfl,⟨nd,rfl⟩⟩;(try first|exact ⟨rfl,_,World.drewN_drewN _ _ _⟩|exact ⟨rfl,_,Eq.trans (World.drewN_drewN _ _ _) (congrArg (World.drewN _) (Nat.add_assoc _ _ _))⟩)));try go_wp2_with (first|(go_at_call 26;(with_reducible refine (laws_hSame.calls k1 _ _ (rd_L1 l0 x13_1) _ _ (rd_L1 l1 x13_1) false _ ?side1 ?side2 ?side3 ?side4 A8.out).mono ?_);(case side1=>repeat (first|exact HR163_0.out|(with_reducible refine ca' ?_ _)|(with_reducible refine cn' ?_ _)|(with_reducible refine cd' ?_)));(case side2=>exact HC163_0.out);(case side3=>repeat (first|exact HR164_0.out|(with_reducible refine ca' ?_ _)|(with_reducible refine cn' ?_ _)|(with_reducible refine cd' ?_)));(case side4=>exact HC164_0.out);rintro e w' ⟨rfl,⟨nd,rfl⟩⟩;(try first|exact ⟨rfl,_,World.drewN_drewN _ _ _⟩|exact ⟨rfl,_,Eq.trans (World.drewN_drewN _ _ _) (congrArg (World.drewN _) (Nat.add_assoc _ _ _))⟩))))
         go_ret
         exact ⟨xs',by repeat (first|exact Drawn0.refl _|apply Drawn0.step)⟩
       ·
        rw[if_neg c7] at H;exact absurd H (by simp)
      ·
       rw[if_neg c6] at H;exact absurd H (by simp)
     ·
      rw[if_neg c5] at H;exact absurd H (by simp)
    ·
     rw[if_neg c4] at H;have c4b0:decide (x13_1 < (l0.length:Int))=false:=df' c4;clear c4;obtain rfl:=os' H;go_wp2
     repeat (go_quiet (fail);try go_wp2)
     go_ret
     exact ⟨xs',by repeat (first|exact Drawn0.refl _|apply Drawn0.step)⟩
 ·
  rw[if_neg c3] at H;have c3b0:((l0.length:Int) == (l1.length:Int))=false:=beq_eq_false_iff_ne.mpr c3;have c3b1:((l0.length:Int) != (l1.length:Int))=true:=bne_iff_ne.mpr c3;have c3b2:(l0.length == l1.length)=false:=by first|simpa using c3|(simp at c3 ⊢;omega)
  obtain rfl:=os' H;go_enter Try.func9,Try.ntmps9;go_wp2
  repeat (go_quiet (fail);try go_wp2)
  go_ret
  exact ⟨xs',by repeat (first|exact Drawn0.refl _|apply Drawn0.step)⟩
def seatsG (k:Nat) (a0 a1:Int):Nat→Int→Option (Int × Bool)
 | 0,_=>some (0,false)
 | n+1,s=>(impl_guarded_costs.f k a0 a1 s).bind fun p=>if p.2=true then some (s,true) else seatsG k a0 a1 n (s+1)
def impl_SeatsForGuards.f (k:Nat) (a0 a1:Int):Option (Int × Bool):=seatsG k a0 a1 4 1
theorem impl_SeatsForGuards.mono:∀ a0 a1 k,LeO (impl_SeatsForGuards.f k a0 a1) (impl_SeatsForGuards.f (k+1) a0 a1):=by
 intro a0 a1 k
 have:∀ n s,LeO (seatsG k a0 a1 n s) (seatsG (k+1) a0 a1 n s):=by
  intro n;induction n with
  | zero=>intro s;exact LeO.refl _
  | succ n ih=>intro s;rw[seatsG,seatsG];exact LeO.bind (impl_guarded_costs.mono _ _ _ _) (fun _=>LeO.ite (LeO.refl _) (ih _))
 exact this 4 1
set_option maxHeartbeats 2000000 in
set_option maxRecDepth 100000 in
theorem impl_SeatsForGuards.calls (k:Nat) (a0:Int) (a1:Int) (r1:Int) (r2:Bool) (w:World) (h:impl_SeatsForGuards.f k a0 a1=some (r1,r2)) :
  Calls Try.prog 10 #[.int .i64 a0, .int .i64 a1] w fun e w'=>e = .returned (.tuple #[.int .i64 r1, .bool r2])∧Below w.heap.size w w':=by
 have hu:=Try.underlying52
 have hug:=Try.underlying49
 have HE:=am' (show seatsG k a0 a1 4 ((1:Nat):Int)=some (r1,r2) from h)
 clear h;go_enter Try.func10,Try.ntmps10
 go_wp2
 go_loopg [6] 4 (fun gg v6 wr=>∃ n s:Nat,Aside0 (n≤gg)∧Aside0 (s+n=5)∧v6 = .int .i64 (s:Int)∧Aside0 (seatsG k a0 a1 n (s:Int)=some (r1,r2))∧Aside0 (Below w.heap.size w wr))
 case atStart=>exact ⟨4,1,⟨by omega⟩,⟨by omega⟩,rfl,HE,⟨Below.refl _ _⟩⟩
 case round =>
  obtain ⟨n,s,HN,HSN,rfl,HE,HB⟩:=hrel;cases n with
  | zero =>
   have hs:¬ (s:Int)≤4:=by have:=HSN.out;omega
   have hsd:=df' hs;have h:=HE.out;simp only[seatsG,Option.some.injEq,Prod.mk.injEq] at h;obtain ⟨rfl,rfl⟩:=h;go_wp2;go_ret2
   exact ⟨rfl,HB.out⟩
  | succ n =>
   have hs:(s:Int)≤4:=by have:=HSN.out;omega
   have hsd:=dt' hs;have h:=HE.out;rw[seatsG] at h;obtain ⟨⟨r,ok⟩,hc,h⟩:=Option.bind_eq_some_iff.mp h;have HC:=am' (impl_guarded_costs.calls k a0 a1 (s:Int) r ok wr hc);clear hc HE;cases ok with
   | false =>
    simp only[Bool.false_eq_true,if_false] at h;have HE:=am' h;clear h;go_wp2_with fail;refine HC.out.mono ?_
    rintro e w2 ⟨pg,v,rfl,hpg,hr,hl,hb⟩
    obtain ⟨Av,cv,rfl⟩:=Kd.R_slice hr;have HB2:=am' (bt' HB.out hb);clear hpg hr hl hb;go_wp2;go_roundg n
    case measure=>have:=HN.out;omega
    case rel=>exact ⟨n,s+1,⟨Nat.le_refl _⟩,⟨by have:=HSN.out;omega⟩,by first|exact nx (by omega)|exact nx2 (by omega)|exact rfl,HE,⟨ba' HB2.out _⟩⟩
   | true =>
    simp only[if_true,Option.some.injEq,Prod.mk.injEq] at h;obtain ⟨rfl,rfl⟩:=h;go_wp2_with fail;refine HC.out.mono ?_
    rintro e w2 ⟨pg,v,rfl,hpg,hr,hl,hb⟩
    obtain ⟨Av,cv,rfl⟩:=Kd.R_slice hr;have HB2:=am' (bt' HB.out hb);clear hpg hr hl hb;go_wp2;go_ret2
    exact ⟨rfl,ba' HB2.out _⟩
def spec_SeatsForGuards.l0:Nat→Int→Int→Int→Option (Int × Bool)
 | 0,_,_,_=>none
 | k+1,x0,x1,x6=>if x6≤4 then ((spec_FewestForGuards.f k x0 x1 x6).bind fun bt166=>(if bt166.2=true then (some (x6,true)) else (spec_SeatsForGuards.l0 k x0 x1 (wrap64 (x6+1))))) else (some (0,false))
def spec_SeatsForGuards.f (k:Nat) (a0:Int) (a1:Int):Option (Int × Bool):=spec_SeatsForGuards.l0 k a0 a1 1
theorem spec_SeatsForGuards.mono_l:∀ k,(∀ y0 y1 y2,LeO (spec_SeatsForGuards.l0 k y0 y1 y2) (spec_SeatsForGuards.l0 (k+1) y0 y1 y2))
 | 0=>fun _ _ _ r h=>by simp[spec_SeatsForGuards.l0] at h
 | k+1=>by
  have ih0:=spec_SeatsForGuards.mono_l k
  ·
   intro y0 y1 y2;unfold spec_SeatsForGuards.l0
   repeat' first
   | (with_reducible exact ih0 _ _ _)
   | (with_reducible exact spec_FewestForGuards.mono _ _ _ _)
   | (with_reducible exact LeO.refl _)
   | (with_reducible exact LeO.none _)
   | (with_reducible refine LeO.ite ?_ ?_)
   | (with_reducible refine LeO.bind ?_ (fun _=>?_))
   | exact ih0 _ _ _
   | exact spec_FewestForGuards.mono _ _ _ _
   | exact LeO.none _
   | refine LeO.ite ?_ ?_
   | refine LeO.bind ?_ (fun _=>?_)
theorem spec_SeatsForGuards.mono:∀ a0 a1 k,LeO (spec_SeatsForGuards.f k a0 a1) (spec_SeatsForGuards.f (k+1) a0 a1):=by
 intro a0 a1 k;have ih0:=spec_SeatsForGuards.mono_l k
 unfold spec_SeatsForGuards.f
 repeat' first
   | (with_reducible exact ih0 _ _ _)
   | (with_reducible exact spec_FewestForGuards.mono _ _ _ _)
   | (with_reducible exact LeO.refl _)
   | (with_reducible exact LeO.none _)
   | (with_reducible refine LeO.ite ?_ ?_)
   | (with_reducible refine LeO.bind ?_ (fun _=>?_))
   | exact ih0 _ _ _
   | exact spec_FewestForGuards.mono _ _ _ _
   | exact LeO.none _
   | refine LeO.ite ?_ ?_
   | refine LeO.bind ?_ (fun _=>?_)
set_option maxHeartbeats 8000000 in
set_option maxRecDepth 100000 in
theorem spec_SeatsForGuards.calls (k:Nat) (a0:Int) (a1:Int) (r1:Int) (r2:Bool) (w:World) (h:spec_SeatsForGuards.f k a0 a1=some (r1,r2)) :
  Calls Try.prog 11 #[.int .i64 a0, .int .i64 a1] w fun e w'=>e = .returned (.tuple #[.int .i64 r1, .bool r2])∧Below w.heap.size w w':=by
 have HB:=am' (Below.refl w.heap.size w)
 have H:(spec_SeatsForGuards.l0 k a0 a1 1)=some (r1,r2):=h
 clear h;have H':=am' H
 clear H;go_enter Try.func11,Try.ntmps11
 go_wp2
 go_loopg [6] k (fun kq v6 w'=>∃ (x6_1:Int),v6 = .int .i64 x6_1∧Aside0 (spec_SeatsForGuards.l0 kq a0 a1 x6_1=some (r1,r2))∧Aside0 (kq≤k)∧Aside0 (Below w.heap.size w w'))
 case atStart=>exact ⟨(1),xs',H',⟨Nat.le_refl _⟩,⟨xb'⟩⟩
 case round =>
  clear H';try clear c1
  try clear p2
  obtain ⟨x6_1,rfl,HA,HK1,HB⟩:=hrel;cases gk with
  | zero=>exact absurd HA.out (by simp[spec_SeatsForGuards.l0])
  | succ k1 =>
   have H:=HA.out;clear HA;simp only[spec_SeatsForGuards.l0] at H;by_cases c3:x6_1≤4
   ·
    rw[if_pos c3] at H;have c3b0:decide (x6_1≤4)=true:=dt' c3;clear c3;replace H:=Option.bind_eq_some_iff.mp H;obtain ⟨⟨t166,t167⟩,A40,H⟩:=H;replace H:(if t167=true then (some (x6_1,true)) else (spec_SeatsForGuards.l0 k1 a0 a1 (wrap64 (x6_1+1))))=some (r1,r2):=H;have A4:=am' A40;clear A40;by_cases c5:t167=true
    ·
     subst c5;have H1:(some (x6_1,true))=some (r1,r2):=by rw[if_pos rfl] at H;exact H
     clear H;have H:=H1;clear H1;simp only[Option.some.injEq,Prod.mk.injEq] at H;obtain ⟨rfl,rfl⟩:=H;go_wp2_with (first|((with_reducible refine gate_callee (f:=8) rfl ?_);refine goesL_ (some 17) rfl rfl Try.func8 xk' rfl #[.int .i64 a0, .int .i64 a1, .int .i64 x6_1] rfl xl' ?_;(with_reducible refine (spec_FewestForGuards.calls k1 a0 a1 x6_1 t166 true _ A4.out).mono ?_);rintro e w6 ⟨rfl,hb⟩;refine ⟨_,rfl,?_⟩;have n0_:=am' (bt' xb' hb);clear HB;have HB:=n0_;clear n0_;(try clear hb);(try clear hb2);(try clear hk);(try clear hi)));go_ret2
     exact ⟨by first|rfl|(simp[errW_none,errW_some] <;> rfl)|(simp[*,errW_none,errW_some] <;> rfl),xb'⟩
    ·
     replace c5:=Bool.eq_false_iff.mpr c5;subst c5;have H1:(spec_SeatsForGuards.l0 k1 a0 a1 (wrap64 (x6_1+1)))=some (r1,r2):=by rw[if_neg (show ¬ (false=true) by decide)] at H;exact H
     clear H;have H:=H1;clear H1;have H':=am' H;clear H;go_wp2_with (first|((with_reducible refine gate_callee (f:=8) rfl ?_);refine goesL_ (some 17) rfl rfl Try.func8 xk' rfl #[.int .i64 a0, .int .i64 a1, .int .i64 x6_1] rfl xl' ?_;(with_reducible refine (spec_FewestForGuards.calls k1 a0 a1 x6_1 t166 false _ A4.out).mono ?_);rintro e w7 ⟨rfl,hb⟩;refine ⟨_,rfl,?_⟩;have n0_:=am' (bt' xb' hb);clear HB;have HB:=n0_;clear n0_;(try clear hb);(try clear hb2);(try clear hk);(try clear hi)));go_roundg k1
     case measure=>have:=HK1.out;omega
     case rel=>exact ⟨(wrap64 (x6_1+1)),xs',H',⟨by have:=HK1.out;omega⟩,⟨xb'⟩⟩
   ·
    rw[if_neg c3] at H;have c3b0:decide (x6_1≤4)=false:=df' c3;clear c3;simp only[Option.some.injEq,Prod.mk.injEq] at H;obtain ⟨rfl,rfl⟩:=H;go_wp2;go_ret2
    exact ⟨by first|rfl|(simp[errW_none,errW_some] <;> rfl)|(simp[*,errW_none,errW_some] <;> rfl),xb'⟩
def impl_bit.f (a0:Bool):Option (Int):=if a0=true then (some 1) else (some 0)
set_option maxHeartbeats 8000000 in
set_option maxRecDepth 100000 in
theorem impl_bit.calls (a0:Bool) (r:Int) (w:World) (h:impl_bit.f a0=some r) :
  Calls Try.prog 36 #[.bool a0] w fun e w'=>e = .returned (.int .i64 r)∧Drawn0 w w':=by
 have H:(if a0=true then (some 1) else (some 0))=some r:=h
 clear h;by_cases c2:a0=true
 ·
  subst c2;have H1:(some 1)=some r:=by rw[if_pos rfl] at H;exact H
  clear H;have H:=H1;clear H1;obtain rfl:=os' H;go_enter Try.func36,Try.ntmps36;go_wp2;go_ret
  exact ⟨xs',by repeat (first|exact Drawn0.refl _|apply Drawn0.step)⟩
 ·
  replace c2:=Bool.eq_false_iff.mpr c2;subst c2;have H1:(some 0)=some r:=by rw[if_neg (show ¬ (false=true) by decide)] at H;exact H
  clear H;have H:=H1;clear H1;obtain rfl:=os' H;go_enter Try.func36,Try.ntmps36;go_wp2;go_ret
  exact ⟨xs',by repeat (first|exact Drawn0.refl _|apply Drawn0.step)⟩
end Go.Proofs.Ytabhhkiipilghaa.C1
