import Derived.Test.YtdomojenlofieaaC1zx0
import Derived.Test.YtdomojenlofieaaC1zx1
import Derived.Test.YtdomojenlofieaaC1zx10
import Derived.Test.YtdomojenlofieaaC1zx5
import Derived.Test.YtdomojenlofieaaC1zx9
import Derived.Test.YtdomojenlofieaaC1zH0
import Derived.Test.YtdomojenlofieaaC1zH2
namespace Go.Proofs.Ytdomojenlofieaa.Walk
open Go.RowKit Go.Proofs.YtdomojenlofieaaW.PrintWords Go.Proofs.YtdomojenlofieaaW.PrintLast Go.Proofs.YtdomojenlofieaaW.PrintMore Go.Proofs.Ytdomojenlofieaa.C1 Go.Proofs.Ytdomojenlofieaa.H
attribute [local go_sem] max2_int min2_int max_two min_two max_three min_three max_four min_four
set_option linter.unusedVariables false
set_option linter.unusedSimpArgs false
theorem laws_heldIntSS_n (k : Nat) (A0 : Option Addr) (c0 : Nat) (l0 : List (List Int)) (a1 : Int) (r : Int) (w : World) (hr0 : Kd.C (Kd.slice 3 (Kd.int .i64)) w A0 l0.length l0) (hc0 : l0.length ≤ c0) (h : laws_heldIntSS.f k l0 a1 = some r)  (n0 : Nat) (en0 : n0 = l0.length) :
    Calls Try.prog 30 #[.slice A0 n0 c0, .int .i64 a1] w fun e w' => e = .returned (.int .i64 r) ∧ Drawn0 w w' := by
  subst en0
  exact laws_heldIntSS.calls k A0 c0 l0 a1 r w hr0 hc0 h
set_option maxHeartbeats 8000000 in
set_option maxRecDepth 100000 in
theorem FnExactBackPlan_walk (A0_0 : Option Addr) (c0_0 : Nat) (l0_0 : List Int) (a0_1 : Int) (A1 : Option Addr) (c1 : Nat) (l1 : List (List Int)) (r0 : List (List Int)) (r1 : Bool) (m0 : Int) (m1 : Int) (q1 : Int) (u0 : Int) (u1 : Int) (yg0 : List (List Int)) (yx0_0 : List Int) (yx1 : List (List Int)) (k1 : Nat) (k2 : Nat) (k3 : Nat) (k4 : Nat) (k5 : Nat) (k6 : Nat) (k7 : Nat) (k8 : Nat) (k9 : Nat) (k10 : Nat) (w : World) (hr0_0 : Kd.C (Kd.int .i64) w A0_0 l0_0.length l0_0) (hc0_0 : l0_0.length ≤ c0_0) (hr1 : Kd.C (Kd.slice 3 (Kd.int .i64)) w A1 l1.length l1) (hc1 : l1.length ≤ c1)  (hU0 : laws_szParty.f l0_0 a0_1 1048576 = some u0) (nU0 : ¬ u0 < 0) (hU1 : laws_szIntSS.f k1 l1 u0 = some u1) (nU1 : ¬ u1 < 0) (hT0 : laws_toParty.f k2 l0_0 a0_1 = some (l0_0, a0_1)) (hT1 : laws_toIntSS.f k3 l1 = some l1) (hS : spec_BackPlan.f k4 l0_0 a0_1 l1 = some (r0, r1)) (hI : impl_BackPlan.f k5 l0_0 a0_1 l1 = some (r0, r1)) (hE : laws_eqIntSS.f k6 r0 r0 = some true) (hEA0 : laws_eqParty.f k7 l0_0 a0_1 l0_0 a0_1 = some true) (hEA1 : laws_eqIntSS.f k8 l1 l1 = some true) (hM0 : laws_markParty.f k9 l0_0 a0_1 1 = some (m0, yx0_0)) (hM1 : laws_markIntSS.f l1 m0 = some (m1, yx1)) (nM : ¬ m1 < 0) (hMR : laws_markIntSS.f r0 1 = some (q1, yg0)) (hH : laws_heldIntSS.f k10 yg0 1 = some q1) (nQ : ¬ q1 < 0) :
    Calls Try.prog 4 #[.agg #[.slice A0_0 l0_0.length c0_0, .int .i64 a0_1], .slice A1 l1.length c1] w fun e w' => e = .returned (.bool true) ∧ Below w.heap.size w w' := by
  have hu46_ := Try.underlying46
  have hu52_ := Try.underlying52
  have W0_0 := Aside0.mk hr0_0
  have W1 := Aside0.mk hr1
  clear hr0_0 hr1
  have XhU0 := Aside0.mk hU0
  clear hU0
  have dnU0 := decide_eq_false nU0
  clear nU0
  have XhU1 := Aside0.mk hU1
  clear hU1
  have dnU1 := decide_eq_false nU1
  clear nU1
  have XhT0 := Aside0.mk hT0
  clear hT0
  have XhT1 := Aside0.mk hT1
  clear hT1
  have XhS := Aside0.mk hS
  clear hS
  have XhI := Aside0.mk hI
  clear hI
  have XhE := Aside0.mk hE
  clear hE
  have XhEA0 := Aside0.mk hEA0
  clear hEA0
  have XhEA1 := Aside0.mk hEA1
  clear hEA1
  have XhM0 := Aside0.mk hM0
  clear hM0
  have XhM1 := Aside0.mk hM1
  clear hM1
  have dnM := decide_eq_false nM
  clear nM
  have XhMR := Aside0.mk hMR
  clear hMR
  have XhH := Aside0.mk hH
  clear hH
  have dnQ := decide_eq_false nQ
  clear nQ
  go_enter Try.func4, Try.ntmps4
  go_wp2_with fail
  have NB := Aside0.mk (lay1 w (.cells #[.slice A0_0 l0_0.length c0_0, .int .i64 a0_1] 46))
  generalize (w.alloc (.cells #[.slice A0_0 l0_0.length c0_0, .int .i64 a0_1] 46)) = wA at *
  have PA0 := Aside0.mk NB.out.1
  have HA := Aside0.mk NB.out.2
  clear NB
  have RA0_0 := Aside0.mk (Kd.C_below W0_0.out HA.out)
  have RA1 := Aside0.mk (Kd.C_below W1.out HA.out)
  clear W0_0 W1
  have HB := Aside0.mk (Below.refl wA.heap.size wA)
  go_wp2_with fail
  go_at_call 20
  refine (laws_szParty.calls _ _ l0_0 a0_1 1048576 u0 _ ?s1_hr0_0 ?s1_hc0_0 XhU0.out).mono ?_
  (case s1_hr0_0 => exact Kd.C_below RA0_0.out (by repeat (first | (with_reducible exact HB.out) | (with_reducible apply below_alloc) | (with_reducible apply pw_below_drewN) | (with_reducible apply below_drew1))))
  (case s1_hc0_0 => exact hc0_0)
  rintro e w1 ⟨rfl, hb⟩
  have nb_ := Aside0.mk (below_step (by repeat (first | (with_reducible exact HB.out) | (with_reducible apply below_alloc) | (with_reducible apply pw_below_drewN) | (with_reducible apply below_drew1))) hb)
  have zw_ := hb.size
  (try simp only [World.size_alloc, size_drew_, size_drewN_] at zw_)
  have ZW1 := Aside0.mk zw_
  clear zw_
  clear HB
  have HB := nb_
  clear nb_
  clear hb
  have xa0_0 : w1.cell? ⟨w.heap.size, 0, none⟩ = some (.slice A0_0 l0_0.length c0_0) := (blk_cell (blk_below PA0.out HB.out) 0).trans rfl
  have xa0_1 : w1.cell? ⟨w.heap.size, 1, none⟩ = some (.int .i64 a0_1) := (blk_cell (blk_below PA0.out HB.out) 1).trans rfl
  have hzA : w.heap.size < w1.heap.size := Nat.lt_of_lt_of_le (blk_lt PA0.out) HB.out.size
  go_wp2_with fail
  go_at_call 21
  refine (laws_szIntSS.calls k1 _ _ l1 u0 u1 _ ?s2_hr0 ?s2_hc0 XhU1.out).mono ?_
  (case s2_hr0 => exact Kd.C_below RA1.out (by repeat (first | (with_reducible exact HB.out) | (with_reducible apply below_alloc) | (with_reducible apply pw_below_drewN) | (with_reducible apply below_drew1))))
  (case s2_hc0 => exact hc1)
  rintro e w2 ⟨rfl, hb0⟩
  have hb := Drawn0.below hb0
  clear hb0
  have nb_ := Aside0.mk (below_step (by repeat (first | (with_reducible exact HB.out) | (with_reducible apply below_alloc) | (with_reducible apply pw_below_drewN) | (with_reducible apply below_drew1))) hb)
  have zw_ := hb.size
  (try simp only [World.size_alloc, size_drew_, size_drewN_] at zw_)
  have ZW2 := Aside0.mk zw_
  clear zw_
  clear HB
  have HB := nb_
  clear nb_
  clear hb
  clear xa0_0 xa0_1 hzA
  have xa0_0 : w2.cell? ⟨w.heap.size, 0, none⟩ = some (.slice A0_0 l0_0.length c0_0) := (blk_cell (blk_below PA0.out HB.out) 0).trans rfl
  have xa0_1 : w2.cell? ⟨w.heap.size, 1, none⟩ = some (.int .i64 a0_1) := (blk_cell (blk_below PA0.out HB.out) 1).trans rfl
  have hzA : w.heap.size < w2.heap.size := Nat.lt_of_lt_of_le (blk_lt PA0.out) HB.out.size
  go_wp2_with fail
  go_at_call 23
  refine (laws_toParty.calls k2 _ _ l0_0 a0_1 l0_0 a0_1 _ ?s3_hr0_0 ?s3_hc0_0 XhT0.out).mono ?_
  (case s3_hr0_0 => exact Kd.C_below RA0_0.out (by repeat (first | (with_reducible exact HB.out) | (with_reducible apply below_alloc) | (with_reducible apply pw_below_drewN) | (with_reducible apply below_drew1))))
  (case s3_hc0_0 => exact hc0_0)
  rintro e w3 ⟨vt0_0, rfl, ht0_0, hb⟩
  obtain ⟨Bt0_0, dt0_0, et0_0⟩ := Kd.R_slice ht0_0
  subst et0_0
  have nb_ := Aside0.mk (below_step (by repeat (first | (with_reducible exact HB.out) | (with_reducible apply below_alloc) | (with_reducible apply pw_below_drewN) | (with_reducible apply below_drew1))) hb)
  have zw_ := hb.size
  (try simp only [World.size_alloc, size_drew_, size_drewN_] at zw_)
  have ZW3 := Aside0.mk zw_
  clear zw_
  clear HB
  have HB := nb_
  clear nb_
  have Ht0_0 := Aside0.mk ht0_0
  clear ht0_0
  clear hb
  clear xa0_0 xa0_1 hzA
  have xa0_0 : w3.cell? ⟨w.heap.size, 0, none⟩ = some (.slice A0_0 l0_0.length c0_0) := (blk_cell (blk_below PA0.out HB.out) 0).trans rfl
  have xa0_1 : w3.cell? ⟨w.heap.size, 1, none⟩ = some (.int .i64 a0_1) := (blk_cell (blk_below PA0.out HB.out) 1).trans rfl
  have hzA : w.heap.size < w3.heap.size := Nat.lt_of_lt_of_le (blk_lt PA0.out) HB.out.size
  go_wp2_with fail
  go_at_call 24
  refine (laws_toIntSS.calls k3 _ _ l1 l1 _ ?s4_hr0 ?s4_hc0 XhT1.out).mono ?_
  (case s4_hr0 => exact Kd.C_below RA1.out (by repeat (first | (with_reducible exact HB.out) | (with_reducible apply below_alloc) | (with_reducible apply pw_below_drewN) | (with_reducible apply below_drew1))))
  (case s4_hc0 => exact hc1)
  rintro e w4 ⟨vt1, rfl, ht1, hb⟩
  obtain ⟨Bt1, dt1, et1⟩ := Kd.S_slice ht1
  subst et1
  have n0_ := Aside0.mk (Kd.R_below (by repeat (first | (with_reducible exact Ht0_0.out) | (with_reducible apply Kd.R_alloc) | (with_reducible apply Kd.R_drewN) | (with_reducible apply Kd.R_drew))) hb)
  have nb_ := Aside0.mk (below_step (by repeat (first | (with_reducible exact HB.out) | (with_reducible apply below_alloc) | (with_reducible apply pw_below_drewN) | (with_reducible apply below_drew1))) hb)
  have zw_ := hb.size
  (try simp only [World.size_alloc, size_drew_, size_drewN_] at zw_)
  have ZW4 := Aside0.mk zw_
  clear zw_
  clear HB Ht0_0
  have HB := nb_
  have Ht0_0 := n0_
  clear nb_ n0_
  have Ht1 := Aside0.mk ht1
  clear ht1
  clear hb
  clear xa0_0 xa0_1 hzA
  have xa0_0 : w4.cell? ⟨w.heap.size, 0, none⟩ = some (.slice A0_0 l0_0.length c0_0) := (blk_cell (blk_below PA0.out HB.out) 0).trans rfl
  have xa0_1 : w4.cell? ⟨w.heap.size, 1, none⟩ = some (.int .i64 a0_1) := (blk_cell (blk_below PA0.out HB.out) 1).trans rfl
  have hzA : w.heap.size < w4.heap.size := Nat.lt_of_lt_of_le (blk_lt PA0.out) HB.out.size
  go_wp2_with fail
  go_at_call 22
  refine (spec_BackPlan.calls k4 _ _ l0_0 a0_1 _ _ l1 r0 r1 _ ?s5_hr0_0 ?s5_hc0_0 ?s5_hr1 ?s5_hc1 XhS.out).mono ?_
  (case s5_hr0_0 => exact (Kd.R_reads' (by repeat (first | (with_reducible exact Ht0_0.out) | (with_reducible apply Kd.R_alloc) | (with_reducible apply Kd.R_drewN) | (with_reducible apply Kd.R_drew)))).2.2)
  (case s5_hc0_0 => exact (Kd.R_reads' Ht0_0.out).2.1)
  (case s5_hr1 => exact (Kd.S_reads' (by repeat (first | (with_reducible exact Ht1.out) | (with_reducible apply Kd.S_alloc) | (with_reducible apply Kd.S_drewN) | (with_reducible apply Kd.S_drew)))).2.2)
  (case s5_hc1 => exact (Kd.S_reads' Ht1.out).2.1)
  rintro e w5 ⟨vw0, rfl, hw0, hb⟩
  obtain ⟨Bw0, dw0, sw0, ew0, es_, LE_, hx_⟩ := S_foot hw0
  subst ew0
  clear hw0
  have LEw0 := Aside0.mk LE_
  have ESw0 := Aside0.mk es_
  have hw0 := hx_
  clear hx_ LE_ es_
  have n0_ := Aside0.mk (Kd.R_below (by repeat (first | (with_reducible exact Ht0_0.out) | (with_reducible apply Kd.R_alloc) | (with_reducible apply Kd.R_drewN) | (with_reducible apply Kd.R_drew))) hb)
  have n1_ := Aside0.mk (Kd.S_below (by repeat (first | (with_reducible exact Ht1.out) | (with_reducible apply Kd.S_alloc) | (with_reducible apply Kd.S_drewN) | (with_reducible apply Kd.S_drew))) hb)
  have nb_ := Aside0.mk (below_step (by repeat (first | (with_reducible exact HB.out) | (with_reducible apply below_alloc) | (with_reducible apply pw_below_drewN) | (with_reducible apply below_drew1))) hb)
  have zw_ := hb.size
  (try simp only [World.size_alloc, size_drew_, size_drewN_] at zw_)
  have ZW5 := Aside0.mk zw_
  clear zw_
  clear HB Ht0_0 Ht1
  have HB := nb_
  have Ht0_0 := n0_
  have Ht1 := n1_
  clear nb_ n0_ n1_
  have Hw0 := Aside0.mk hw0
  clear hw0
  clear hb
  clear xa0_0 xa0_1 hzA
  have xa0_0 : w5.cell? ⟨w.heap.size, 0, none⟩ = some (.slice A0_0 l0_0.length c0_0) := (blk_cell (blk_below PA0.out HB.out) 0).trans rfl
  have xa0_1 : w5.cell? ⟨w.heap.size, 1, none⟩ = some (.int .i64 a0_1) := (blk_cell (blk_below PA0.out HB.out) 1).trans rfl
  have hzA : w.heap.size < w5.heap.size := Nat.lt_of_lt_of_le (blk_lt PA0.out) HB.out.size
  clear Ht0_0 Ht1
  go_wp2_with fail
  go_at_call 23
  refine (laws_toParty.calls k2 _ _ l0_0 a0_1 l0_0 a0_1 _ ?s6_hr0_0 ?s6_hc0_0 XhT0.out).mono ?_
  (case s6_hr0_0 => exact Kd.C_below RA0_0.out (by repeat (first | (with_reducible exact HB.out) | (with_reducible apply below_alloc) | (with_reducible apply pw_below_drewN) | (with_reducible apply below_drew1))))
  (case s6_hc0_0 => exact hc0_0)
  rintro e w6 ⟨vx0_0, rfl, hx0_0, hb⟩
  obtain ⟨lox0_0, hix0_0, elx0_0, ehx0_0, zlx0_0, zhx0_0, hx_⟩ := R_span hx0_0 hb (by repeat (first | (with_reducible exact HB.out) | (with_reducible apply below_alloc) | (with_reducible apply pw_below_drewN) | (with_reducible apply below_drew1)))
  clear hx0_0
  have hx0_0 := hx_
  clear hx_
  (try simp only [World.size_alloc, size_drew_, size_drewN_] at elx0_0)
  have Zx0_0 := Aside0.mk (And.intro elx0_0 (And.intro ehx0_0 (And.intro zlx0_0 zhx0_0)))
  clear elx0_0 ehx0_0 zlx0_0 zhx0_0
  obtain ⟨Bx0_0, dx0_0, ex0_0⟩ := Kd.R_slice hx0_0
  subst ex0_0
  have n0_ := Aside0.mk (Kd.F_below (by repeat (first | (with_reducible exact Hw0.out) | (with_reducible apply Kd.F_alloc) | (with_reducible apply Kd.F_drewN) | (with_reducible apply Kd.F_drew))) hb)
  have nb_ := Aside0.mk (below_step (by repeat (first | (with_reducible exact HB.out) | (with_reducible apply below_alloc) | (with_reducible apply pw_below_drewN) | (with_reducible apply below_drew1))) hb)
  have zw_ := hb.size
  (try simp only [World.size_alloc, size_drew_, size_drewN_] at zw_)
  have ZW6 := Aside0.mk zw_
  clear zw_
  clear HB Hw0
  have HB := nb_
  have Hw0 := n0_
  clear nb_ n0_
  have Hx0_0 := Aside0.mk hx0_0
  clear hx0_0
  clear hb
  clear xa0_0 xa0_1 hzA
  have xa0_0 : w6.cell? ⟨w.heap.size, 0, none⟩ = some (.slice A0_0 l0_0.length c0_0) := (blk_cell (blk_below PA0.out HB.out) 0).trans rfl
  have xa0_1 : w6.cell? ⟨w.heap.size, 1, none⟩ = some (.int .i64 a0_1) := (blk_cell (blk_below PA0.out HB.out) 1).trans rfl
  have hzA : w.heap.size < w6.heap.size := Nat.lt_of_lt_of_le (blk_lt PA0.out) HB.out.size
  have BXx0 := Aside0.mk (heap_alloc_new w6 (.cells #[.slice Bx0_0 l0_0.length dx0_0, .int .i64 a0_1] 52))
  go_wp2_with fail
  go_at_call 24
  refine (laws_toIntSS.calls k3 _ _ l1 l1 _ ?s7_hr0 ?s7_hc0 XhT1.out).mono ?_
  (case s7_hr0 => exact Kd.C_below RA1.out (by repeat (first | (with_reducible exact HB.out) | (with_reducible apply below_alloc) | (with_reducible apply pw_below_drewN) | (with_reducible apply below_drew1))))
  (case s7_hc0 => exact hc1)
  rintro e w7 ⟨vx1, rfl, hx1, hb⟩
  obtain ⟨lox1, hix1, elx1, ehx1, zlx1, zhx1, hx_⟩ := S_span hx1 hb (by repeat (first | (with_reducible exact HB.out) | (with_reducible apply below_alloc) | (with_reducible apply pw_below_drewN) | (with_reducible apply below_drew1)))
  clear hx1
  have hx1 := hx_
  clear hx_
  (try simp only [World.size_alloc, size_drew_, size_drewN_] at elx1)
  have Zx1 := Aside0.mk (And.intro elx1 (And.intro ehx1 (And.intro zlx1 zhx1)))
  clear elx1 ehx1 zlx1 zhx1
  obtain ⟨Bx1, dx1, ex1⟩ := Kd.S_slice hx1
  subst ex1
  have n0_ := Aside0.mk (Kd.F_below (by repeat (first | (with_reducible exact Hw0.out) | (with_reducible apply Kd.F_alloc) | (with_reducible apply Kd.F_drewN) | (with_reducible apply Kd.F_drew))) hb)
  have n1_ := Aside0.mk (Kd.R_below (by repeat (first | (with_reducible exact Hx0_0.out) | (with_reducible apply Kd.R_alloc) | (with_reducible apply Kd.R_drewN) | (with_reducible apply Kd.R_drew))) hb)
  have n2_ := Aside0.mk (blk_below (g := w6.heap.size) (o := .cells #[.slice Bx0_0 l0_0.length dx0_0, .int .i64 a0_1] 52) (by repeat (first | (with_reducible exact BXx0.out) | (with_reducible refine blk_drewN ?_ _) | (with_reducible refine blk_drew ?_) | (with_reducible refine blk_alloc ?_ _))) hb)
  have nb_ := Aside0.mk (below_step (by repeat (first | (with_reducible exact HB.out) | (with_reducible apply below_alloc) | (with_reducible apply pw_below_drewN) | (with_reducible apply below_drew1))) hb)
  have zw_ := hb.size
  (try simp only [World.size_alloc, size_drew_, size_drewN_] at zw_)
  have ZW7 := Aside0.mk zw_
  clear zw_
  clear HB Hw0 Hx0_0 BXx0
  have HB := nb_
  have Hw0 := n0_
  have Hx0_0 := n1_
  have BXx0 := n2_
  clear nb_ n0_ n1_ n2_
  have Hx1 := Aside0.mk hx1
  clear hx1
  clear hb
  clear xa0_0 xa0_1 hzA
  have xa0_0 : w7.cell? ⟨w.heap.size, 0, none⟩ = some (.slice A0_0 l0_0.length c0_0) := (blk_cell (blk_below PA0.out HB.out) 0).trans rfl
  have xa0_1 : w7.cell? ⟨w.heap.size, 1, none⟩ = some (.int .i64 a0_1) := (blk_cell (blk_below PA0.out HB.out) 1).trans rfl
  have BXx0c0 : w7.cell? ⟨w6.heap.size, 0, none⟩ = some (.slice Bx0_0 l0_0.length dx0_0) := (blk_cell BXx0.out 0).trans rfl
  have BXx0c1 : w7.cell? ⟨w6.heap.size, 1, none⟩ = some (.int .i64 a0_1) := (blk_cell BXx0.out 1).trans rfl
  have hzA : w.heap.size < w7.heap.size := Nat.lt_of_lt_of_le (blk_lt PA0.out) HB.out.size
  have hzBXx0 : w6.heap.size < w7.heap.size := blk_lt BXx0.out
  go_wp2_with fail
  go_at_call 25
  refine (impl_BackPlan.calls k5 _ _ l0_0 a0_1 _ _ l1 r0 r1 _ ?s8_hr0_0 ?s8_hc0_0 ?s8_hr1 ?s8_hc1 XhI.out).mono ?_
  (case s8_hr0_0 => exact (Kd.R_reads' (by repeat (first | (with_reducible exact Hx0_0.out) | (with_reducible apply Kd.R_alloc) | (with_reducible apply Kd.R_drewN) | (with_reducible apply Kd.R_drew)))).2.2)
  (case s8_hc0_0 => exact (Kd.R_reads' Hx0_0.out).2.1)
  (case s8_hr1 => exact (Kd.S_reads' (by repeat (first | (with_reducible exact Hx1.out) | (with_reducible apply Kd.S_alloc) | (with_reducible apply Kd.S_drewN) | (with_reducible apply Kd.S_drew)))).2.2)
  (case s8_hc1 => exact (Kd.S_reads' Hx1.out).2.1)
  rintro e w8 ⟨vg0, rfl, hg0, hb⟩
  obtain ⟨log0, hig0, elg0, ehg0, zlg0, zhg0, hx_⟩ := S_span hg0 hb (by repeat (first | (with_reducible exact HB.out) | (with_reducible apply below_alloc) | (with_reducible apply pw_below_drewN) | (with_reducible apply below_drew1)))
  clear hg0
  have hg0 := hx_
  clear hx_
  (try simp only [World.size_alloc, size_drew_, size_drewN_] at elg0)
  have Zg0 := Aside0.mk (And.intro elg0 (And.intro ehg0 (And.intro zlg0 zhg0)))
  clear elg0 ehg0 zlg0 zhg0
  obtain ⟨Bg0, dg0, eg0⟩ := Kd.S_slice hg0
  subst eg0
  have n0_ := Aside0.mk (Kd.F_below (by repeat (first | (with_reducible exact Hw0.out) | (with_reducible apply Kd.F_alloc) | (with_reducible apply Kd.F_drewN) | (with_reducible apply Kd.F_drew))) hb)
  have n1_ := Aside0.mk (Kd.R_below (by repeat (first | (with_reducible exact Hx0_0.out) | (with_reducible apply Kd.R_alloc) | (with_reducible apply Kd.R_drewN) | (with_reducible apply Kd.R_drew))) hb)
  have n2_ := Aside0.mk (blk_below (g := w6.heap.size) (o := .cells #[.slice Bx0_0 l0_0.length dx0_0, .int .i64 a0_1] 52) (by repeat (first | (with_reducible exact BXx0.out) | (with_reducible refine blk_drewN ?_ _) | (with_reducible refine blk_drew ?_) | (with_reducible refine blk_alloc ?_ _))) hb)
  have n3_ := Aside0.mk (Kd.S_below (by repeat (first | (with_reducible exact Hx1.out) | (with_reducible apply Kd.S_alloc) | (with_reducible apply Kd.S_drewN) | (with_reducible apply Kd.S_drew))) hb)
  have nb_ := Aside0.mk (below_step (by repeat (first | (with_reducible exact HB.out) | (with_reducible apply below_alloc) | (with_reducible apply pw_below_drewN) | (with_reducible apply below_drew1))) hb)
  have zw_ := hb.size
  (try simp only [World.size_alloc, size_drew_, size_drewN_] at zw_)
  have ZW8 := Aside0.mk zw_
  clear zw_
  clear HB Hw0 Hx0_0 BXx0 Hx1
  have HB := nb_
  have Hw0 := n0_
  have Hx0_0 := n1_
  have BXx0 := n2_
  have Hx1 := n3_
  clear nb_ n0_ n1_ n2_ n3_
  have Hg0 := Aside0.mk hg0
  clear hg0
  clear hb
  clear xa0_0 xa0_1 BXx0c0 BXx0c1 hzA hzBXx0
  have xa0_0 : w8.cell? ⟨w.heap.size, 0, none⟩ = some (.slice A0_0 l0_0.length c0_0) := (blk_cell (blk_below PA0.out HB.out) 0).trans rfl
  have xa0_1 : w8.cell? ⟨w.heap.size, 1, none⟩ = some (.int .i64 a0_1) := (blk_cell (blk_below PA0.out HB.out) 1).trans rfl
  have BXx0c0 : w8.cell? ⟨w6.heap.size, 0, none⟩ = some (.slice Bx0_0 l0_0.length dx0_0) := (blk_cell BXx0.out 0).trans rfl
  have BXx0c1 : w8.cell? ⟨w6.heap.size, 1, none⟩ = some (.int .i64 a0_1) := (blk_cell BXx0.out 1).trans rfl
  have hzA : w.heap.size < w8.heap.size := Nat.lt_of_lt_of_le (blk_lt PA0.out) HB.out.size
  have hzBXx0 : w6.heap.size < w8.heap.size := blk_lt BXx0.out
  go_wp2_with fail
  go_at_call 26
  refine (laws_eqIntSS.calls k6 _ _ r0 _ _ r0 true _ ?s9_hr0 ?s9_hc0 ?s9_hr1 ?s9_hc1 XhE.out).mono ?_
  (case s9_hr0 => exact (Kd.S_reads' (by repeat (first | (with_reducible exact Hg0.out) | (with_reducible apply Kd.S_alloc) | (with_reducible apply Kd.S_drewN) | (with_reducible apply Kd.S_drew)))).2.2)
  (case s9_hc0 => exact (Kd.S_reads' Hg0.out).2.1)
  (case s9_hr1 => exact Kd.F_now (by repeat (first | (with_reducible exact Hw0.out) | (with_reducible apply Kd.F_alloc) | (with_reducible apply Kd.F_drewN) | (with_reducible apply Kd.F_drew))))
  (case s9_hc1 => exact LEw0.out)
  rintro e w9 ⟨rfl, hb0⟩
  have hb := Drawn0.below hb0
  clear hb0
  have n0_ := Aside0.mk (Kd.F_below (by repeat (first | (with_reducible exact Hw0.out) | (with_reducible apply Kd.F_alloc) | (with_reducible apply Kd.F_drewN) | (with_reducible apply Kd.F_drew))) hb)
  have n1_ := Aside0.mk (Kd.R_below (by repeat (first | (with_reducible exact Hx0_0.out) | (with_reducible apply Kd.R_alloc) | (with_reducible apply Kd.R_drewN) | (with_reducible apply Kd.R_drew))) hb)
  have n2_ := Aside0.mk (blk_below (g := w6.heap.size) (o := .cells #[.slice Bx0_0 l0_0.length dx0_0, .int .i64 a0_1] 52) (by repeat (first | (with_reducible exact BXx0.out) | (with_reducible refine blk_drewN ?_ _) | (with_reducible refine blk_drew ?_) | (with_reducible refine blk_alloc ?_ _))) hb)
  have n3_ := Aside0.mk (Kd.S_below (by repeat (first | (with_reducible exact Hx1.out) | (with_reducible apply Kd.S_alloc) | (with_reducible apply Kd.S_drewN) | (with_reducible apply Kd.S_drew))) hb)
  have n4_ := Aside0.mk (Kd.S_below (by repeat (first | (with_reducible exact Hg0.out) | (with_reducible apply Kd.S_alloc) | (with_reducible apply Kd.S_drewN) | (with_reducible apply Kd.S_drew))) hb)
  have nb_ := Aside0.mk (below_step (by repeat (first | (with_reducible exact HB.out) | (with_reducible apply below_alloc) | (with_reducible apply pw_below_drewN) | (with_reducible apply below_drew1))) hb)
  have zw_ := hb.size
  (try simp only [World.size_alloc, size_drew_, size_drewN_] at zw_)
  have ZW9 := Aside0.mk zw_
  clear zw_
  clear HB Hw0 Hx0_0 BXx0 Hx1 Hg0
  have HB := nb_
  have Hw0 := n0_
  have Hx0_0 := n1_
  have BXx0 := n2_
  have Hx1 := n3_
  have Hg0 := n4_
  clear nb_ n0_ n1_ n2_ n3_ n4_
  clear hb
  clear xa0_0 xa0_1 BXx0c0 BXx0c1 hzA hzBXx0
  have xa0_0 : w9.cell? ⟨w.heap.size, 0, none⟩ = some (.slice A0_0 l0_0.length c0_0) := (blk_cell (blk_below PA0.out HB.out) 0).trans rfl
  have xa0_1 : w9.cell? ⟨w.heap.size, 1, none⟩ = some (.int .i64 a0_1) := (blk_cell (blk_below PA0.out HB.out) 1).trans rfl
  have BXx0c0 : w9.cell? ⟨w6.heap.size, 0, none⟩ = some (.slice Bx0_0 l0_0.length dx0_0) := (blk_cell BXx0.out 0).trans rfl
  have BXx0c1 : w9.cell? ⟨w6.heap.size, 1, none⟩ = some (.int .i64 a0_1) := (blk_cell BXx0.out 1).trans rfl
  have hzA : w.heap.size < w9.heap.size := Nat.lt_of_lt_of_le (blk_lt PA0.out) HB.out.size
  have hzBXx0 : w6.heap.size < w9.heap.size := blk_lt BXx0.out
  go_wp2_with fail
  go_region_held3 (fun w' => w'.cell? ⟨w.heap.size, 0, none⟩ = some (.slice A0_0 l0_0.length c0_0) ∧ w'.cell? ⟨w.heap.size, 1, none⟩ = some (.int .i64 a0_1) ∧ w'.cell? ⟨w6.heap.size, 0, none⟩ = some (.slice Bx0_0 l0_0.length dx0_0) ∧ w'.cell? ⟨w6.heap.size, 1, none⟩ = some (.int .i64 a0_1)) (first | (exact ⟨(blk_cell (blk_below PA0.out (by repeat (first | (with_reducible exact HB.out) | (with_reducible apply below_alloc) | (with_reducible apply pw_below_drewN) | (with_reducible apply below_drew1)))) 0).trans rfl, (blk_cell (blk_below PA0.out (by repeat (first | (with_reducible exact HB.out) | (with_reducible apply below_alloc) | (with_reducible apply pw_below_drewN) | (with_reducible apply below_drew1)))) 1).trans rfl, (blk_cell (by repeat (first | (with_reducible exact BXx0.out) | (with_reducible refine blk_drewN ?_ _) | (with_reducible refine blk_drew ?_) | (with_reducible refine blk_alloc ?_ _))) 0).trans rfl, (blk_cell (by repeat (first | (with_reducible exact BXx0.out) | (with_reducible refine blk_drewN ?_ _) | (with_reducible refine blk_drew ?_) | (with_reducible refine blk_alloc ?_ _))) 1).trans rfl⟩) | go_keep)
    (first | ((go_at_call 23; refine (laws_toParty.calls k2 _ _ l0_0 a0_1 l0_0 a0_1 _ ?s10_hr0_0 ?s10_hc0_0 XhT0.out).mono ?_; (case s10_hr0_0 => exact Kd.C_below RA0_0.out (by repeat (first | (with_reducible exact HB.out) | (with_reducible apply below_alloc) | (with_reducible apply pw_below_drewN) | (with_reducible apply below_drew1)))); (case s10_hc0_0 => exact hc0_0); rintro e w10 ⟨vt0_0, rfl, ht0_0, hb⟩; obtain ⟨Bt0_0, dt0_0, et0_0⟩ := Kd.R_slice ht0_0; subst et0_0; have n0_ := Aside0.mk (Kd.F_below (by repeat (first | (with_reducible exact Hw0.out) | (with_reducible apply Kd.F_alloc) | (with_reducible apply Kd.F_drewN) | (with_reducible apply Kd.F_drew))) hb); have n1_ := Aside0.mk (Kd.R_below (by repeat (first | (with_reducible exact Hx0_0.out) | (with_reducible apply Kd.R_alloc) | (with_reducible apply Kd.R_drewN) | (with_reducible apply Kd.R_drew))) hb); have n2_ := Aside0.mk (blk_below (g := w6.heap.size) (o := .cells #[.slice Bx0_0 l0_0.length dx0_0, .int .i64 a0_1] 52) (by repeat (first | (with_reducible exact BXx0.out) | (with_reducible refine blk_drewN ?_ _) | (with_reducible refine blk_drew ?_) | (with_reducible refine blk_alloc ?_ _))) hb); have n3_ := Aside0.mk (Kd.S_below (by repeat (first | (with_reducible exact Hx1.out) | (with_reducible apply Kd.S_alloc) | (with_reducible apply Kd.S_drewN) | (with_reducible apply Kd.S_drew))) hb); have n4_ := Aside0.mk (Kd.S_below (by repeat (first | (with_reducible exact Hg0.out) | (with_reducible apply Kd.S_alloc) | (with_reducible apply Kd.S_drewN) | (with_reducible apply Kd.S_drew))) hb); have nb_ := Aside0.mk (below_step (by repeat (first | (with_reducible exact HB.out) | (with_reducible apply below_alloc) | (with_reducible apply pw_below_drewN) | (with_reducible apply below_drew1))) hb); have zw_ := hb.size; (try simp only [World.size_alloc, size_drew_, size_drewN_] at zw_); have ZW10 := Aside0.mk zw_; clear zw_; clear HB Hw0 Hx0_0 BXx0 Hx1 Hg0; have HB := nb_; have Hw0 := n0_; have Hx0_0 := n1_; have BXx0 := n2_; have Hx1 := n3_; have Hg0 := n4_; clear nb_ n0_ n1_ n2_ n3_ n4_; have Ht0_0 := Aside0.mk ht0_0; clear ht0_0; clear hb; clear xa0_0 xa0_1 BXx0c0 BXx0c1 hzA hzBXx0; have xa0_0 : w10.cell? ⟨w.heap.size, 0, none⟩ = some (.slice A0_0 l0_0.length c0_0) := (blk_cell (blk_below PA0.out HB.out) 0).trans rfl; have xa0_1 : w10.cell? ⟨w.heap.size, 1, none⟩ = some (.int .i64 a0_1) := (blk_cell (blk_below PA0.out HB.out) 1).trans rfl; have BXx0c0 : w10.cell? ⟨w6.heap.size, 0, none⟩ = some (.slice Bx0_0 l0_0.length dx0_0) := (blk_cell BXx0.out 0).trans rfl; have BXx0c1 : w10.cell? ⟨w6.heap.size, 1, none⟩ = some (.int .i64 a0_1) := (blk_cell BXx0.out 1).trans rfl; have hzA : w.heap.size < w10.heap.size := Nat.lt_of_lt_of_le (blk_lt PA0.out) HB.out.size; have hzBXx0 : w6.heap.size < w10.heap.size := blk_lt BXx0.out)) | ((go_at_call 27; refine (laws_eqParty.calls k7 _ _ l0_0 a0_1 _ _ l0_0 a0_1 true _ ?s11_hr0_0 ?s11_hc0_0 ?s11_hr1_0 ?s11_hc1_0 XhEA0.out).mono ?_; (case s11_hr0_0 => exact (Kd.R_reads' (by repeat (first | (with_reducible exact Hx0_0.out) | (with_reducible apply Kd.R_alloc) | (with_reducible apply Kd.R_drewN) | (with_reducible apply Kd.R_drew)))).2.2); (case s11_hc0_0 => exact (Kd.R_reads' Hx0_0.out).2.1); (case s11_hr1_0 => exact (Kd.R_reads' (by repeat (first | (with_reducible exact Ht0_0.out) | (with_reducible apply Kd.R_alloc) | (with_reducible apply Kd.R_drewN) | (with_reducible apply Kd.R_drew)))).2.2); (case s11_hc1_0 => exact (Kd.R_reads' Ht0_0.out).2.1); rintro e w11 ⟨rfl, hb⟩; have n0_ := Aside0.mk (Kd.F_below (by repeat (first | (with_reducible exact Hw0.out) | (with_reducible apply Kd.F_alloc) | (with_reducible apply Kd.F_drewN) | (with_reducible apply Kd.F_drew))) hb); have n1_ := Aside0.mk (Kd.R_below (by repeat (first | (with_reducible exact Hx0_0.out) | (with_reducible apply Kd.R_alloc) | (with_reducible apply Kd.R_drewN) | (with_reducible apply Kd.R_drew))) hb); have n2_ := Aside0.mk (blk_below (g := w6.heap.size) (o := .cells #[.slice Bx0_0 l0_0.length dx0_0, .int .i64 a0_1] 52) (by repeat (first | (with_reducible exact BXx0.out) | (with_reducible refine blk_drewN ?_ _) | (with_reducible refine blk_drew ?_) | (with_reducible refine blk_alloc ?_ _))) hb); have n3_ := Aside0.mk (Kd.S_below (by repeat (first | (with_reducible exact Hx1.out) | (with_reducible apply Kd.S_alloc) | (with_reducible apply Kd.S_drewN) | (with_reducible apply Kd.S_drew))) hb); have n4_ := Aside0.mk (Kd.S_below (by repeat (first | (with_reducible exact Hg0.out) | (with_reducible apply Kd.S_alloc) | (with_reducible apply Kd.S_drewN) | (with_reducible apply Kd.S_drew))) hb); have n5_ := Aside0.mk (Kd.R_below (by repeat (first | (with_reducible exact Ht0_0.out) | (with_reducible apply Kd.R_alloc) | (with_reducible apply Kd.R_drewN) | (with_reducible apply Kd.R_drew))) hb); have nb_ := Aside0.mk (below_step (by repeat (first | (with_reducible exact HB.out) | (with_reducible apply below_alloc) | (with_reducible apply pw_below_drewN) | (with_reducible apply below_drew1))) hb); have zw_ := hb.size; (try simp only [World.size_alloc, size_drew_, size_drewN_] at zw_); have ZW11 := Aside0.mk zw_; clear zw_; clear HB Hw0 Hx0_0 BXx0 Hx1 Hg0 Ht0_0; have HB := nb_; have Hw0 := n0_; have Hx0_0 := n1_; have BXx0 := n2_; have Hx1 := n3_; have Hg0 := n4_; have Ht0_0 := n5_; clear nb_ n0_ n1_ n2_ n3_ n4_ n5_; clear hb; clear xa0_0 xa0_1 BXx0c0 BXx0c1 hzA hzBXx0; have xa0_0 : w11.cell? ⟨w.heap.size, 0, none⟩ = some (.slice A0_0 l0_0.length c0_0) := (blk_cell (blk_below PA0.out HB.out) 0).trans rfl; have xa0_1 : w11.cell? ⟨w.heap.size, 1, none⟩ = some (.int .i64 a0_1) := (blk_cell (blk_below PA0.out HB.out) 1).trans rfl; have BXx0c0 : w11.cell? ⟨w6.heap.size, 0, none⟩ = some (.slice Bx0_0 l0_0.length dx0_0) := (blk_cell BXx0.out 0).trans rfl; have BXx0c1 : w11.cell? ⟨w6.heap.size, 1, none⟩ = some (.int .i64 a0_1) := (blk_cell BXx0.out 1).trans rfl; have hzA : w.heap.size < w11.heap.size := Nat.lt_of_lt_of_le (blk_lt PA0.out) HB.out.size; have hzBXx0 : w6.heap.size < w11.heap.size := blk_lt BXx0.out)))
  clear Ht0_0
  go_wp2_with fail
  go_at_call 24
  refine (laws_toIntSS.calls k3 _ _ l1 l1 _ ?s12_hr0 ?s12_hc0 XhT1.out).mono ?_
  (case s12_hr0 => exact Kd.C_below RA1.out (by repeat (first | (with_reducible exact HB.out) | (with_reducible apply below_alloc) | (with_reducible apply pw_below_drewN) | (with_reducible apply below_drew1))))
  (case s12_hc0 => exact hc1)
  rintro e w12 ⟨vt1, rfl, ht1, hb⟩
  obtain ⟨Bt1, dt1, et1⟩ := Kd.S_slice ht1
  subst et1
  have n0_ := Aside0.mk (Kd.F_below (by repeat (first | (with_reducible exact Hw0.out) | (with_reducible apply Kd.F_alloc) | (with_reducible apply Kd.F_drewN) | (with_reducible apply Kd.F_drew))) hb)
  have n1_ := Aside0.mk (Kd.R_below (by repeat (first | (with_reducible exact Hx0_0.out) | (with_reducible apply Kd.R_alloc) | (with_reducible apply Kd.R_drewN) | (with_reducible apply Kd.R_drew))) hb)
  have n2_ := Aside0.mk (blk_below (g := w6.heap.size) (o := .cells #[.slice Bx0_0 l0_0.length dx0_0, .int .i64 a0_1] 52) (by repeat (first | (with_reducible exact BXx0.out) | (with_reducible refine blk_drewN ?_ _) | (with_reducible refine blk_drew ?_) | (with_reducible refine blk_alloc ?_ _))) hb)
  have n3_ := Aside0.mk (Kd.S_below (by repeat (first | (with_reducible exact Hx1.out) | (with_reducible apply Kd.S_alloc) | (with_reducible apply Kd.S_drewN) | (with_reducible apply Kd.S_drew))) hb)
  have n4_ := Aside0.mk (Kd.S_below (by repeat (first | (with_reducible exact Hg0.out) | (with_reducible apply Kd.S_alloc) | (with_reducible apply Kd.S_drewN) | (with_reducible apply Kd.S_drew))) hb)
  have nb_ := Aside0.mk (below_step (by repeat (first | (with_reducible exact HB.out) | (with_reducible apply below_alloc) | (with_reducible apply pw_below_drewN) | (with_reducible apply below_drew1))) hb)
  have zw_ := hb.size
  (try simp only [World.size_alloc, size_drew_, size_drewN_] at zw_)
  have ZW12 := Aside0.mk zw_
  clear zw_
  clear HB Hw0 Hx0_0 BXx0 Hx1 Hg0
  have HB := nb_
  have Hw0 := n0_
  have Hx0_0 := n1_
  have BXx0 := n2_
  have Hx1 := n3_
  have Hg0 := n4_
  clear nb_ n0_ n1_ n2_ n3_ n4_
  have Ht1 := Aside0.mk ht1
  clear ht1
  clear hb
  clear xa0_0 xa0_1 BXx0c0 BXx0c1 hzA hzBXx0
  have xa0_0 : w12.cell? ⟨w.heap.size, 0, none⟩ = some (.slice A0_0 l0_0.length c0_0) := (blk_cell (blk_below PA0.out HB.out) 0).trans rfl
  have xa0_1 : w12.cell? ⟨w.heap.size, 1, none⟩ = some (.int .i64 a0_1) := (blk_cell (blk_below PA0.out HB.out) 1).trans rfl
  have BXx0c0 : w12.cell? ⟨w6.heap.size, 0, none⟩ = some (.slice Bx0_0 l0_0.length dx0_0) := (blk_cell BXx0.out 0).trans rfl
  have BXx0c1 : w12.cell? ⟨w6.heap.size, 1, none⟩ = some (.int .i64 a0_1) := (blk_cell BXx0.out 1).trans rfl
  have hzA : w.heap.size < w12.heap.size := Nat.lt_of_lt_of_le (blk_lt PA0.out) HB.out.size
  have hzBXx0 : w6.heap.size < w12.heap.size := blk_lt BXx0.out
  go_wp2_with fail
  go_at_call 26
  refine (laws_eqIntSS.calls k8 _ _ l1 _ _ l1 true _ ?s13_hr0 ?s13_hc0 ?s13_hr1 ?s13_hc1 XhEA1.out).mono ?_
  (case s13_hr0 => exact (Kd.S_reads' (by repeat (first | (with_reducible exact Hx1.out) | (with_reducible apply Kd.S_alloc) | (with_reducible apply Kd.S_drewN) | (with_reducible apply Kd.S_drew)))).2.2)
  (case s13_hc0 => exact (Kd.S_reads' Hx1.out).2.1)
  (case s13_hr1 => exact (Kd.S_reads' (by repeat (first | (with_reducible exact Ht1.out) | (with_reducible apply Kd.S_alloc) | (with_reducible apply Kd.S_drewN) | (with_reducible apply Kd.S_drew)))).2.2)
  (case s13_hc1 => exact (Kd.S_reads' Ht1.out).2.1)
  rintro e w13 ⟨rfl, hb0⟩
  have hb := Drawn0.below hb0
  clear hb0
  have n0_ := Aside0.mk (Kd.F_below (by repeat (first | (with_reducible exact Hw0.out) | (with_reducible apply Kd.F_alloc) | (with_reducible apply Kd.F_drewN) | (with_reducible apply Kd.F_drew))) hb)
  have n1_ := Aside0.mk (Kd.R_below (by repeat (first | (with_reducible exact Hx0_0.out) | (with_reducible apply Kd.R_alloc) | (with_reducible apply Kd.R_drewN) | (with_reducible apply Kd.R_drew))) hb)
  have n2_ := Aside0.mk (blk_below (g := w6.heap.size) (o := .cells #[.slice Bx0_0 l0_0.length dx0_0, .int .i64 a0_1] 52) (by repeat (first | (with_reducible exact BXx0.out) | (with_reducible refine blk_drewN ?_ _) | (with_reducible refine blk_drew ?_) | (with_reducible refine blk_alloc ?_ _))) hb)
  have n3_ := Aside0.mk (Kd.S_below (by repeat (first | (with_reducible exact Hx1.out) | (with_reducible apply Kd.S_alloc) | (with_reducible apply Kd.S_drewN) | (with_reducible apply Kd.S_drew))) hb)
  have n4_ := Aside0.mk (Kd.S_below (by repeat (first | (with_reducible exact Hg0.out) | (with_reducible apply Kd.S_alloc) | (with_reducible apply Kd.S_drewN) | (with_reducible apply Kd.S_drew))) hb)
  have n5_ := Aside0.mk (Kd.S_below (by repeat (first | (with_reducible exact Ht1.out) | (with_reducible apply Kd.S_alloc) | (with_reducible apply Kd.S_drewN) | (with_reducible apply Kd.S_drew))) hb)
  have nb_ := Aside0.mk (below_step (by repeat (first | (with_reducible exact HB.out) | (with_reducible apply below_alloc) | (with_reducible apply pw_below_drewN) | (with_reducible apply below_drew1))) hb)
  have zw_ := hb.size
  (try simp only [World.size_alloc, size_drew_, size_drewN_] at zw_)
  have ZW13 := Aside0.mk zw_
  clear zw_
  clear HB Hw0 Hx0_0 BXx0 Hx1 Hg0 Ht1
  have HB := nb_
  have Hw0 := n0_
  have Hx0_0 := n1_
  have BXx0 := n2_
  have Hx1 := n3_
  have Hg0 := n4_
  have Ht1 := n5_
  clear nb_ n0_ n1_ n2_ n3_ n4_ n5_
  clear hb
  clear xa0_0 xa0_1 BXx0c0 BXx0c1 hzA hzBXx0
  have xa0_0 : w13.cell? ⟨w.heap.size, 0, none⟩ = some (.slice A0_0 l0_0.length c0_0) := (blk_cell (blk_below PA0.out HB.out) 0).trans rfl
  have xa0_1 : w13.cell? ⟨w.heap.size, 1, none⟩ = some (.int .i64 a0_1) := (blk_cell (blk_below PA0.out HB.out) 1).trans rfl
  have BXx0c0 : w13.cell? ⟨w6.heap.size, 0, none⟩ = some (.slice Bx0_0 l0_0.length dx0_0) := (blk_cell BXx0.out 0).trans rfl
  have BXx0c1 : w13.cell? ⟨w6.heap.size, 1, none⟩ = some (.int .i64 a0_1) := (blk_cell BXx0.out 1).trans rfl
  have hzA : w.heap.size < w13.heap.size := Nat.lt_of_lt_of_le (blk_lt PA0.out) HB.out.size
  have hzBXx0 : w6.heap.size < w13.heap.size := blk_lt BXx0.out
  clear Ht1
  go_wp2_with fail
  go_at_call 28
  refine (laws_markParty.calls k9 (fun k_ => lox0_0 ≤ k_ ∧ k_ < hix0_0) _ l0_0 a0_1 1 m0 yx0_0 wA _ ?s14_hB ?s14_ho0_0 XhM0.out).mono ?_
  (case s14_hB => exact (by repeat (first | (with_reducible exact HB.out) | (with_reducible apply below_alloc) | (with_reducible apply pw_below_drewN) | (with_reducible apply below_drew1))))
  (case s14_ho0_0 => exact (by repeat (first | (with_reducible exact Hx0_0.out) | (with_reducible apply Kd.R_alloc) | (with_reducible apply Kd.R_drewN) | (with_reducible apply Kd.R_drew))))
  rintro e w14 ⟨rfl, hx0_0, hb, hk⟩
  have n0_ := Aside0.mk (Kd.F_kept (by repeat (first | (with_reducible exact Hw0.out) | (with_reducible apply Kd.F_alloc) | (with_reducible apply Kd.F_drewN) | (with_reducible apply Kd.F_drew))) hk (fun k_ h_ p_ => by have qZW1 := ZW1.out; have qZW2 := ZW2.out; have qZW3 := ZW3.out; have qZW4 := ZW4.out; have qESw0 := ESw0.out; have qZW5 := ZW5.out; have qZx0_0 := Zx0_0.out; have qZW6 := ZW6.out; have qZx1 := Zx1.out; have qZW7 := ZW7.out; have qZg0 := Zg0.out; have qZW8 := ZW8.out; have qZW9 := ZW9.out; have qZW10 := ZW10.out; have qZW11 := ZW11.out; have qZW12 := ZW12.out; have qZW13 := ZW13.out; (try dsimp only at h_ p_); omega))
  have n2_ := Aside0.mk (blk_kept (g := w6.heap.size) (o := .cells #[.slice Bx0_0 l0_0.length dx0_0, .int .i64 a0_1] 52) (by repeat (first | (with_reducible exact BXx0.out) | (with_reducible refine blk_drewN ?_ _) | (with_reducible refine blk_drew ?_) | (with_reducible refine blk_alloc ?_ _))) hk (fun p_ => by have qZW1 := ZW1.out; have qZW2 := ZW2.out; have qZW3 := ZW3.out; have qZW4 := ZW4.out; have qESw0 := ESw0.out; have qZW5 := ZW5.out; have qZx0_0 := Zx0_0.out; have qZW6 := ZW6.out; have qZx1 := Zx1.out; have qZW7 := ZW7.out; have qZg0 := Zg0.out; have qZW8 := ZW8.out; have qZW9 := ZW9.out; have qZW10 := ZW10.out; have qZW11 := ZW11.out; have qZW12 := ZW12.out; have qZW13 := ZW13.out; (try dsimp only at p_); omega))
  have n3_ := Aside0.mk (Kd.S_kept (by repeat (first | (with_reducible exact Hx1.out) | (with_reducible apply Kd.S_alloc) | (with_reducible apply Kd.S_drewN) | (with_reducible apply Kd.S_drew))) hk (fun k_ h_ p_ => by have qZW1 := ZW1.out; have qZW2 := ZW2.out; have qZW3 := ZW3.out; have qZW4 := ZW4.out; have qESw0 := ESw0.out; have qZW5 := ZW5.out; have qZx0_0 := Zx0_0.out; have qZW6 := ZW6.out; have qZx1 := Zx1.out; have qZW7 := ZW7.out; have qZg0 := Zg0.out; have qZW8 := ZW8.out; have qZW9 := ZW9.out; have qZW10 := ZW10.out; have qZW11 := ZW11.out; have qZW12 := ZW12.out; have qZW13 := ZW13.out; (try dsimp only at h_ p_); omega))
  have n4_ := Aside0.mk (Kd.S_kept (by repeat (first | (with_reducible exact Hg0.out) | (with_reducible apply Kd.S_alloc) | (with_reducible apply Kd.S_drewN) | (with_reducible apply Kd.S_drew))) hk (fun k_ h_ p_ => by have qZW1 := ZW1.out; have qZW2 := ZW2.out; have qZW3 := ZW3.out; have qZW4 := ZW4.out; have qESw0 := ESw0.out; have qZW5 := ZW5.out; have qZx0_0 := Zx0_0.out; have qZW6 := ZW6.out; have qZx1 := Zx1.out; have qZW7 := ZW7.out; have qZg0 := Zg0.out; have qZW8 := ZW8.out; have qZW9 := ZW9.out; have qZW10 := ZW10.out; have qZW11 := ZW11.out; have qZW12 := ZW12.out; have qZW13 := ZW13.out; (try dsimp only at h_ p_); omega))
  have zw_ := hk.1
  (try simp only [World.size_alloc, size_drew_, size_drewN_] at zw_)
  have ZW14 := Aside0.mk zw_
  clear zw_
  have HB_ := Aside0.mk hb
  clear HB
  have HB := HB_
  clear HB_
  clear Hw0
  have Hw0 := n0_
  clear n0_
  clear Hx0_0
  have Hx0_0 := Aside0.mk hx0_0
  clear hx0_0
  clear BXx0
  have BXx0 := n2_
  clear n2_
  clear Hx1
  have Hx1 := n3_
  clear n3_
  clear Hg0
  have Hg0 := n4_
  clear n4_
  clear hb hk
  clear Hx0_0
  clear xa0_0 xa0_1 BXx0c0 BXx0c1 hzA hzBXx0
  have xa0_0 : w14.cell? ⟨w.heap.size, 0, none⟩ = some (.slice A0_0 l0_0.length c0_0) := (blk_cell (blk_below PA0.out HB.out) 0).trans rfl
  have xa0_1 : w14.cell? ⟨w.heap.size, 1, none⟩ = some (.int .i64 a0_1) := (blk_cell (blk_below PA0.out HB.out) 1).trans rfl
  have BXx0c0 : w14.cell? ⟨w6.heap.size, 0, none⟩ = some (.slice Bx0_0 l0_0.length dx0_0) := (blk_cell BXx0.out 0).trans rfl
  have BXx0c1 : w14.cell? ⟨w6.heap.size, 1, none⟩ = some (.int .i64 a0_1) := (blk_cell BXx0.out 1).trans rfl
  have hzA : w.heap.size < w14.heap.size := Nat.lt_of_lt_of_le (blk_lt PA0.out) HB.out.size
  have hzBXx0 : w6.heap.size < w14.heap.size := blk_lt BXx0.out
  go_wp2_with fail
  go_at_call 29
  refine (laws_markIntSS.calls (fun k_ => lox1 ≤ k_ ∧ k_ < hix1) _ l1 m0 m1 yx1 wA _ ?s15_hB ?s15_ho0 XhM1.out).mono ?_
  (case s15_hB => exact (by repeat (first | (with_reducible exact HB.out) | (with_reducible apply below_alloc) | (with_reducible apply pw_below_drewN) | (with_reducible apply below_drew1))))
  (case s15_ho0 => exact (by repeat (first | (with_reducible exact Hx1.out) | (with_reducible apply Kd.S_alloc) | (with_reducible apply Kd.S_drewN) | (with_reducible apply Kd.S_drew))))
  rintro e w15 ⟨rfl, hx1, hb, hk⟩
  have n0_ := Aside0.mk (Kd.F_kept (by repeat (first | (with_reducible exact Hw0.out) | (with_reducible apply Kd.F_alloc) | (with_reducible apply Kd.F_drewN) | (with_reducible apply Kd.F_drew))) hk (fun k_ h_ p_ => by have qZW1 := ZW1.out; have qZW2 := ZW2.out; have qZW3 := ZW3.out; have qZW4 := ZW4.out; have qESw0 := ESw0.out; have qZW5 := ZW5.out; have qZx0_0 := Zx0_0.out; have qZW6 := ZW6.out; have qZx1 := Zx1.out; have qZW7 := ZW7.out; have qZg0 := Zg0.out; have qZW8 := ZW8.out; have qZW9 := ZW9.out; have qZW10 := ZW10.out; have qZW11 := ZW11.out; have qZW12 := ZW12.out; have qZW13 := ZW13.out; have qZW14 := ZW14.out; (try dsimp only at h_ p_); omega))
  have n1_ := Aside0.mk (blk_kept (g := w6.heap.size) (o := .cells #[.slice Bx0_0 l0_0.length dx0_0, .int .i64 a0_1] 52) (by repeat (first | (with_reducible exact BXx0.out) | (with_reducible refine blk_drewN ?_ _) | (with_reducible refine blk_drew ?_) | (with_reducible refine blk_alloc ?_ _))) hk (fun p_ => by have qZW1 := ZW1.out; have qZW2 := ZW2.out; have qZW3 := ZW3.out; have qZW4 := ZW4.out; have qESw0 := ESw0.out; have qZW5 := ZW5.out; have qZx0_0 := Zx0_0.out; have qZW6 := ZW6.out; have qZx1 := Zx1.out; have qZW7 := ZW7.out; have qZg0 := Zg0.out; have qZW8 := ZW8.out; have qZW9 := ZW9.out; have qZW10 := ZW10.out; have qZW11 := ZW11.out; have qZW12 := ZW12.out; have qZW13 := ZW13.out; have qZW14 := ZW14.out; (try dsimp only at p_); omega))
  have n3_ := Aside0.mk (Kd.S_kept (by repeat (first | (with_reducible exact Hg0.out) | (with_reducible apply Kd.S_alloc) | (with_reducible apply Kd.S_drewN) | (with_reducible apply Kd.S_drew))) hk (fun k_ h_ p_ => by have qZW1 := ZW1.out; have qZW2 := ZW2.out; have qZW3 := ZW3.out; have qZW4 := ZW4.out; have qESw0 := ESw0.out; have qZW5 := ZW5.out; have qZx0_0 := Zx0_0.out; have qZW6 := ZW6.out; have qZx1 := Zx1.out; have qZW7 := ZW7.out; have qZg0 := Zg0.out; have qZW8 := ZW8.out; have qZW9 := ZW9.out; have qZW10 := ZW10.out; have qZW11 := ZW11.out; have qZW12 := ZW12.out; have qZW13 := ZW13.out; have qZW14 := ZW14.out; (try dsimp only at h_ p_); omega))
  have zw_ := hk.1
  (try simp only [World.size_alloc, size_drew_, size_drewN_] at zw_)
  have ZW15 := Aside0.mk zw_
  clear zw_
  have HB_ := Aside0.mk hb
  clear HB
  have HB := HB_
  clear HB_
  clear Hw0
  have Hw0 := n0_
  clear n0_
  clear BXx0
  have BXx0 := n1_
  clear n1_
  clear Hx1
  have Hx1 := Aside0.mk hx1
  clear hx1
  clear Hg0
  have Hg0 := n3_
  clear n3_
  clear hb hk
  clear Hx1
  clear xa0_0 xa0_1 BXx0c0 BXx0c1 hzA hzBXx0
  have xa0_0 : w15.cell? ⟨w.heap.size, 0, none⟩ = some (.slice A0_0 l0_0.length c0_0) := (blk_cell (blk_below PA0.out HB.out) 0).trans rfl
  have xa0_1 : w15.cell? ⟨w.heap.size, 1, none⟩ = some (.int .i64 a0_1) := (blk_cell (blk_below PA0.out HB.out) 1).trans rfl
  have BXx0c0 : w15.cell? ⟨w6.heap.size, 0, none⟩ = some (.slice Bx0_0 l0_0.length dx0_0) := (blk_cell BXx0.out 0).trans rfl
  have BXx0c1 : w15.cell? ⟨w6.heap.size, 1, none⟩ = some (.int .i64 a0_1) := (blk_cell BXx0.out 1).trans rfl
  have hzA : w.heap.size < w15.heap.size := Nat.lt_of_lt_of_le (blk_lt PA0.out) HB.out.size
  have hzBXx0 : w6.heap.size < w15.heap.size := blk_lt BXx0.out
  go_wp2_with fail
  go_at_call 26
  refine (laws_eqIntSS.calls k6 _ _ r0 _ _ r0 true _ ?s16_hr0 ?s16_hc0 ?s16_hr1 ?s16_hc1 XhE.out).mono ?_
  (case s16_hr0 => exact (Kd.S_reads' (by repeat (first | (with_reducible exact Hg0.out) | (with_reducible apply Kd.S_alloc) | (with_reducible apply Kd.S_drewN) | (with_reducible apply Kd.S_drew)))).2.2)
  (case s16_hc0 => exact (Kd.S_reads' Hg0.out).2.1)
  (case s16_hr1 => exact Kd.F_now (by repeat (first | (with_reducible exact Hw0.out) | (with_reducible apply Kd.F_alloc) | (with_reducible apply Kd.F_drewN) | (with_reducible apply Kd.F_drew))))
  (case s16_hc1 => exact LEw0.out)
  rintro e w16 ⟨rfl, hb0⟩
  have hb := Drawn0.below hb0
  clear hb0
  have n0_ := Aside0.mk (Kd.F_below (by repeat (first | (with_reducible exact Hw0.out) | (with_reducible apply Kd.F_alloc) | (with_reducible apply Kd.F_drewN) | (with_reducible apply Kd.F_drew))) hb)
  have n1_ := Aside0.mk (blk_below (g := w6.heap.size) (o := .cells #[.slice Bx0_0 l0_0.length dx0_0, .int .i64 a0_1] 52) (by repeat (first | (with_reducible exact BXx0.out) | (with_reducible refine blk_drewN ?_ _) | (with_reducible refine blk_drew ?_) | (with_reducible refine blk_alloc ?_ _))) hb)
  have n2_ := Aside0.mk (Kd.S_below (by repeat (first | (with_reducible exact Hg0.out) | (with_reducible apply Kd.S_alloc) | (with_reducible apply Kd.S_drewN) | (with_reducible apply Kd.S_drew))) hb)
  have nb_ := Aside0.mk (below_step (by repeat (first | (with_reducible exact HB.out) | (with_reducible apply below_alloc) | (with_reducible apply pw_below_drewN) | (with_reducible apply below_drew1))) hb)
  have zw_ := hb.size
  (try simp only [World.size_alloc, size_drew_, size_drewN_] at zw_)
  have ZW16 := Aside0.mk zw_
  clear zw_
  clear HB Hw0 BXx0 Hg0
  have HB := nb_
  have Hw0 := n0_
  have BXx0 := n1_
  have Hg0 := n2_
  clear nb_ n0_ n1_ n2_
  clear hb
  clear xa0_0 xa0_1 BXx0c0 BXx0c1 hzA hzBXx0
  have xa0_0 : w16.cell? ⟨w.heap.size, 0, none⟩ = some (.slice A0_0 l0_0.length c0_0) := (blk_cell (blk_below PA0.out HB.out) 0).trans rfl
  have xa0_1 : w16.cell? ⟨w.heap.size, 1, none⟩ = some (.int .i64 a0_1) := (blk_cell (blk_below PA0.out HB.out) 1).trans rfl
  have BXx0c0 : w16.cell? ⟨w6.heap.size, 0, none⟩ = some (.slice Bx0_0 l0_0.length dx0_0) := (blk_cell BXx0.out 0).trans rfl
  have BXx0c1 : w16.cell? ⟨w6.heap.size, 1, none⟩ = some (.int .i64 a0_1) := (blk_cell BXx0.out 1).trans rfl
  have hzA : w.heap.size < w16.heap.size := Nat.lt_of_lt_of_le (blk_lt PA0.out) HB.out.size
  have hzBXx0 : w6.heap.size < w16.heap.size := blk_lt BXx0.out
  go_wp2_with fail
  go_at_call 29
  refine (laws_markIntSS.calls (fun k_ => log0 ≤ k_ ∧ k_ < hig0) _ r0 1 q1 yg0 wA _ ?s17_hB ?s17_ho0 XhMR.out).mono ?_
  (case s17_hB => exact (by repeat (first | (with_reducible exact HB.out) | (with_reducible apply below_alloc) | (with_reducible apply pw_below_drewN) | (with_reducible apply below_drew1))))
  (case s17_ho0 => exact (by repeat (first | (with_reducible exact Hg0.out) | (with_reducible apply Kd.S_alloc) | (with_reducible apply Kd.S_drewN) | (with_reducible apply Kd.S_drew))))
  rintro e w17 ⟨rfl, hg0, hb, hk⟩
  have n0_ := Aside0.mk (Kd.F_kept (by repeat (first | (with_reducible exact Hw0.out) | (with_reducible apply Kd.F_alloc) | (with_reducible apply Kd.F_drewN) | (with_reducible apply Kd.F_drew))) hk (fun k_ h_ p_ => by have qZW1 := ZW1.out; have qZW2 := ZW2.out; have qZW3 := ZW3.out; have qZW4 := ZW4.out; have qESw0 := ESw0.out; have qZW5 := ZW5.out; have qZx0_0 := Zx0_0.out; have qZW6 := ZW6.out; have qZx1 := Zx1.out; have qZW7 := ZW7.out; have qZg0 := Zg0.out; have qZW8 := ZW8.out; have qZW9 := ZW9.out; have qZW10 := ZW10.out; have qZW11 := ZW11.out; have qZW12 := ZW12.out; have qZW13 := ZW13.out; have qZW14 := ZW14.out; have qZW15 := ZW15.out; have qZW16 := ZW16.out; (try dsimp only at h_ p_); omega))
  have n1_ := Aside0.mk (blk_kept (g := w6.heap.size) (o := .cells #[.slice Bx0_0 l0_0.length dx0_0, .int .i64 a0_1] 52) (by repeat (first | (with_reducible exact BXx0.out) | (with_reducible refine blk_drewN ?_ _) | (with_reducible refine blk_drew ?_) | (with_reducible refine blk_alloc ?_ _))) hk (fun p_ => by have qZW1 := ZW1.out; have qZW2 := ZW2.out; have qZW3 := ZW3.out; have qZW4 := ZW4.out; have qESw0 := ESw0.out; have qZW5 := ZW5.out; have qZx0_0 := Zx0_0.out; have qZW6 := ZW6.out; have qZx1 := Zx1.out; have qZW7 := ZW7.out; have qZg0 := Zg0.out; have qZW8 := ZW8.out; have qZW9 := ZW9.out; have qZW10 := ZW10.out; have qZW11 := ZW11.out; have qZW12 := ZW12.out; have qZW13 := ZW13.out; have qZW14 := ZW14.out; have qZW15 := ZW15.out; have qZW16 := ZW16.out; (try dsimp only at p_); omega))
  have zw_ := hk.1
  (try simp only [World.size_alloc, size_drew_, size_drewN_] at zw_)
  have ZW17 := Aside0.mk zw_
  clear zw_
  have HB_ := Aside0.mk hb
  clear HB
  have HB := HB_
  clear HB_
  clear Hw0
  have Hw0 := n0_
  clear n0_
  clear BXx0
  have BXx0 := n1_
  clear n1_
  clear Hg0
  have Hg0 := Aside0.mk hg0
  clear hg0
  clear hb hk
  clear xa0_0 xa0_1 BXx0c0 BXx0c1 hzA hzBXx0
  have xa0_0 : w17.cell? ⟨w.heap.size, 0, none⟩ = some (.slice A0_0 l0_0.length c0_0) := (blk_cell (blk_below PA0.out HB.out) 0).trans rfl
  have xa0_1 : w17.cell? ⟨w.heap.size, 1, none⟩ = some (.int .i64 a0_1) := (blk_cell (blk_below PA0.out HB.out) 1).trans rfl
  have BXx0c0 : w17.cell? ⟨w6.heap.size, 0, none⟩ = some (.slice Bx0_0 l0_0.length dx0_0) := (blk_cell BXx0.out 0).trans rfl
  have BXx0c1 : w17.cell? ⟨w6.heap.size, 1, none⟩ = some (.int .i64 a0_1) := (blk_cell BXx0.out 1).trans rfl
  have hzA : w.heap.size < w17.heap.size := Nat.lt_of_lt_of_le (blk_lt PA0.out) HB.out.size
  have hzBXx0 : w6.heap.size < w17.heap.size := blk_lt BXx0.out
  go_wp2_with fail
  go_at_call 30
  refine (laws_heldIntSS_n k10 _ _ yg0 1 q1 _ ?s18_hr0 ?s18_hc0 XhH.out r0.length ?s18_n0).mono ?_
  (case s18_hr0 => exact (Kd.S_reads' (by repeat (first | (with_reducible exact Hg0.out) | (with_reducible apply Kd.S_alloc) | (with_reducible apply Kd.S_drewN) | (with_reducible apply Kd.S_drew)))).2.2)
  (case s18_hc0 => exact Nat.le_trans (Nat.le_of_eq (Kd.S_reads' Hg0.out).1.symm) (Kd.S_reads' Hg0.out).2.1)
  (case s18_n0 => exact (Kd.S_reads' Hg0.out).1)
  rintro e w18 ⟨rfl, hb0⟩
  have hb := Drawn0.below hb0
  clear hb0
  have n0_ := Aside0.mk (Kd.F_below (by repeat (first | (with_reducible exact Hw0.out) | (with_reducible apply Kd.F_alloc) | (with_reducible apply Kd.F_drewN) | (with_reducible apply Kd.F_drew))) hb)
  have n1_ := Aside0.mk (blk_below (g := w6.heap.size) (o := .cells #[.slice Bx0_0 l0_0.length dx0_0, .int .i64 a0_1] 52) (by repeat (first | (with_reducible exact BXx0.out) | (with_reducible refine blk_drewN ?_ _) | (with_reducible refine blk_drew ?_) | (with_reducible refine blk_alloc ?_ _))) hb)
  have n2_ := Aside0.mk (Kd.S_below (by repeat (first | (with_reducible exact Hg0.out) | (with_reducible apply Kd.S_alloc) | (with_reducible apply Kd.S_drewN) | (with_reducible apply Kd.S_drew))) hb)
  have nb_ := Aside0.mk (below_step (by repeat (first | (with_reducible exact HB.out) | (with_reducible apply below_alloc) | (with_reducible apply pw_below_drewN) | (with_reducible apply below_drew1))) hb)
  have zw_ := hb.size
  (try simp only [World.size_alloc, size_drew_, size_drewN_] at zw_)
  have ZW18 := Aside0.mk zw_
  clear zw_
  clear HB Hw0 BXx0 Hg0
  have HB := nb_
  have Hw0 := n0_
  have BXx0 := n1_
  have Hg0 := n2_
  clear nb_ n0_ n1_ n2_
  clear hb
  clear xa0_0 xa0_1 BXx0c0 BXx0c1 hzA hzBXx0
  have xa0_0 : w18.cell? ⟨w.heap.size, 0, none⟩ = some (.slice A0_0 l0_0.length c0_0) := (blk_cell (blk_below PA0.out HB.out) 0).trans rfl
  have xa0_1 : w18.cell? ⟨w.heap.size, 1, none⟩ = some (.int .i64 a0_1) := (blk_cell (blk_below PA0.out HB.out) 1).trans rfl
  have BXx0c0 : w18.cell? ⟨w6.heap.size, 0, none⟩ = some (.slice Bx0_0 l0_0.length dx0_0) := (blk_cell BXx0.out 0).trans rfl
  have BXx0c1 : w18.cell? ⟨w6.heap.size, 1, none⟩ = some (.int .i64 a0_1) := (blk_cell BXx0.out 1).trans rfl
  have hzA : w.heap.size < w18.heap.size := Nat.lt_of_lt_of_le (blk_lt PA0.out) HB.out.size
  have hzBXx0 : w6.heap.size < w18.heap.size := blk_lt BXx0.out
  clear BXx0
  clear xa0_0 xa0_1 BXx0c0 BXx0c1 hzA hzBXx0
  have n_ := Aside0.mk (show Kd.S (Kd.slice 3 (Kd.int .i64)) 22 w18 wA.heap.size (fun _ => True) (.slice Bg0 r0.length dg0) yg0 from Kd.S_mono Hg0.out (fun _ _ => trivial))
  clear Hg0
  have Hg0 := n_
  clear n_
  clear ZW1 ZW2 ZW3 ZW4 ESw0 ZW5 Zx0_0 ZW6 Zx1 ZW7 Zg0 ZW8 ZW9 ZW10 ZW11 ZW12 ZW13 ZW14 ZW15 ZW16 ZW17 ZW18
  clear XhU0 XhU1 XhS XhEA0 XhEA1 XhM0 XhM1 XhMR dnU0 dnU1 dnM
  have xa0_0 : w18.cell? ⟨w.heap.size, 0, none⟩ = some (.slice A0_0 l0_0.length c0_0) := (blk_cell (blk_below PA0.out HB.out) 0).trans rfl
  have xa0_1 : w18.cell? ⟨w.heap.size, 1, none⟩ = some (.int .i64 a0_1) := (blk_cell (blk_below PA0.out HB.out) 1).trans rfl
  have hzA : w.heap.size < w18.heap.size := Nat.lt_of_lt_of_le (blk_lt PA0.out) HB.out.size
  go_wp2_with fail
  go_at_call 23
  refine (laws_toParty.calls k2 _ _ l0_0 a0_1 l0_0 a0_1 _ ?s19_hr0_0 ?s19_hc0_0 XhT0.out).mono ?_
  (case s19_hr0_0 => exact Kd.C_below RA0_0.out (by repeat (first | (with_reducible exact HB.out) | (with_reducible apply below_alloc) | (with_reducible apply pw_below_drewN) | (with_reducible apply below_drew1))))
  (case s19_hc0_0 => exact hc0_0)
  rintro e w19 ⟨vt0_0, rfl, ht0_0, hb⟩
  obtain ⟨Bt0_0, dt0_0, et0_0⟩ := Kd.R_slice ht0_0
  subst et0_0
  have n0_ := Aside0.mk (Kd.F_below (by repeat (first | (with_reducible exact Hw0.out) | (with_reducible apply Kd.F_alloc) | (with_reducible apply Kd.F_drewN) | (with_reducible apply Kd.F_drew))) hb)
  have n1_ := Aside0.mk (Kd.S_below (by repeat (first | (with_reducible exact Hg0.out) | (with_reducible apply Kd.S_alloc) | (with_reducible apply Kd.S_drewN) | (with_reducible apply Kd.S_drew))) hb)
  have nb_ := Aside0.mk (below_step (by repeat (first | (with_reducible exact HB.out) | (with_reducible apply below_alloc) | (with_reducible apply pw_below_drewN) | (with_reducible apply below_drew1))) hb)
  have zw_ := hb.size
  (try simp only [World.size_alloc, size_drew_, size_drewN_] at zw_)
  have ZW19 := Aside0.mk zw_
  clear zw_
  clear HB Hw0 Hg0
  have HB := nb_
  have Hw0 := n0_
  have Hg0 := n1_
  clear nb_ n0_ n1_
  have Ht0_0 := Aside0.mk ht0_0
  clear ht0_0
  clear hb
  clear xa0_0 xa0_1 hzA
  have xa0_0 : w19.cell? ⟨w.heap.size, 0, none⟩ = some (.slice A0_0 l0_0.length c0_0) := (blk_cell (blk_below PA0.out HB.out) 0).trans rfl
  have xa0_1 : w19.cell? ⟨w.heap.size, 1, none⟩ = some (.int .i64 a0_1) := (blk_cell (blk_below PA0.out HB.out) 1).trans rfl
  have hzA : w.heap.size < w19.heap.size := Nat.lt_of_lt_of_le (blk_lt PA0.out) HB.out.size
  go_wp2_with fail
  go_at_call 24
  refine (laws_toIntSS.calls k3 _ _ l1 l1 _ ?s20_hr0 ?s20_hc0 XhT1.out).mono ?_
  (case s20_hr0 => exact Kd.C_below RA1.out (by repeat (first | (with_reducible exact HB.out) | (with_reducible apply below_alloc) | (with_reducible apply pw_below_drewN) | (with_reducible apply below_drew1))))
  (case s20_hc0 => exact hc1)
  rintro e w20 ⟨vt1, rfl, ht1, hb⟩
  obtain ⟨Bt1, dt1, et1⟩ := Kd.S_slice ht1
  subst et1
  have n0_ := Aside0.mk (Kd.F_below (by repeat (first | (with_reducible exact Hw0.out) | (with_reducible apply Kd.F_alloc) | (with_reducible apply Kd.F_drewN) | (with_reducible apply Kd.F_drew))) hb)
  have n1_ := Aside0.mk (Kd.S_below (by repeat (first | (with_reducible exact Hg0.out) | (with_reducible apply Kd.S_alloc) | (with_reducible apply Kd.S_drewN) | (with_reducible apply Kd.S_drew))) hb)
  have n2_ := Aside0.mk (Kd.R_below (by repeat (first | (with_reducible exact Ht0_0.out) | (with_reducible apply Kd.R_alloc) | (with_reducible apply Kd.R_drewN) | (with_reducible apply Kd.R_drew))) hb)
  have nb_ := Aside0.mk (below_step (by repeat (first | (with_reducible exact HB.out) | (with_reducible apply below_alloc) | (with_reducible apply pw_below_drewN) | (with_reducible apply below_drew1))) hb)
  have zw_ := hb.size
  (try simp only [World.size_alloc, size_drew_, size_drewN_] at zw_)
  have ZW20 := Aside0.mk zw_
  clear zw_
  clear HB Hw0 Hg0 Ht0_0
  have HB := nb_
  have Hw0 := n0_
  have Hg0 := n1_
  have Ht0_0 := n2_
  clear nb_ n0_ n1_ n2_
  have Ht1 := Aside0.mk ht1
  clear ht1
  clear hb
  clear xa0_0 xa0_1 hzA
  have xa0_0 : w20.cell? ⟨w.heap.size, 0, none⟩ = some (.slice A0_0 l0_0.length c0_0) := (blk_cell (blk_below PA0.out HB.out) 0).trans rfl
  have xa0_1 : w20.cell? ⟨w.heap.size, 1, none⟩ = some (.int .i64 a0_1) := (blk_cell (blk_below PA0.out HB.out) 1).trans rfl
  have hzA : w.heap.size < w20.heap.size := Nat.lt_of_lt_of_le (blk_lt PA0.out) HB.out.size
  go_wp2_with fail
  go_at_call 25
  refine (impl_BackPlan.calls k5 _ _ l0_0 a0_1 _ _ l1 r0 r1 _ ?s21_hr0_0 ?s21_hc0_0 ?s21_hr1 ?s21_hc1 XhI.out).mono ?_
  (case s21_hr0_0 => exact (Kd.R_reads' (by repeat (first | (with_reducible exact Ht0_0.out) | (with_reducible apply Kd.R_alloc) | (with_reducible apply Kd.R_drewN) | (with_reducible apply Kd.R_drew)))).2.2)
  (case s21_hc0_0 => exact (Kd.R_reads' Ht0_0.out).2.1)
  (case s21_hr1 => exact (Kd.S_reads' (by repeat (first | (with_reducible exact Ht1.out) | (with_reducible apply Kd.S_alloc) | (with_reducible apply Kd.S_drewN) | (with_reducible apply Kd.S_drew)))).2.2)
  (case s21_hc1 => exact (Kd.S_reads' Ht1.out).2.1)
  rintro e w21 ⟨vh0, rfl, hh0, hb⟩
  obtain ⟨Bh0, dh0, sh0, eh0, es_, LE_, hx_⟩ := S_foot hh0
  subst eh0
  clear hh0
  have LEh0 := Aside0.mk LE_
  have ESh0 := Aside0.mk es_
  have hh0 := hx_
  clear hx_ LE_ es_
  have n0_ := Aside0.mk (Kd.F_below (by repeat (first | (with_reducible exact Hw0.out) | (with_reducible apply Kd.F_alloc) | (with_reducible apply Kd.F_drewN) | (with_reducible apply Kd.F_drew))) hb)
  have n1_ := Aside0.mk (Kd.S_below (by repeat (first | (with_reducible exact Hg0.out) | (with_reducible apply Kd.S_alloc) | (with_reducible apply Kd.S_drewN) | (with_reducible apply Kd.S_drew))) hb)
  have n2_ := Aside0.mk (Kd.R_below (by repeat (first | (with_reducible exact Ht0_0.out) | (with_reducible apply Kd.R_alloc) | (with_reducible apply Kd.R_drewN) | (with_reducible apply Kd.R_drew))) hb)
  have n3_ := Aside0.mk (Kd.S_below (by repeat (first | (with_reducible exact Ht1.out) | (with_reducible apply Kd.S_alloc) | (with_reducible apply Kd.S_drewN) | (with_reducible apply Kd.S_drew))) hb)
  have nb_ := Aside0.mk (below_step (by repeat (first | (with_reducible exact HB.out) | (with_reducible apply below_alloc) | (with_reducible apply pw_below_drewN) | (with_reducible apply below_drew1))) hb)
  have zw_ := hb.size
  (try simp only [World.size_alloc, size_drew_, size_drewN_] at zw_)
  have ZW21 := Aside0.mk zw_
  clear zw_
  clear HB Hw0 Hg0 Ht0_0 Ht1
  have HB := nb_
  have Hw0 := n0_
  have Hg0 := n1_
  have Ht0_0 := n2_
  have Ht1 := n3_
  clear nb_ n0_ n1_ n2_ n3_
  have Hh0 := Aside0.mk hh0
  clear hh0
  clear hb
  clear xa0_0 xa0_1 hzA
  have xa0_0 : w21.cell? ⟨w.heap.size, 0, none⟩ = some (.slice A0_0 l0_0.length c0_0) := (blk_cell (blk_below PA0.out HB.out) 0).trans rfl
  have xa0_1 : w21.cell? ⟨w.heap.size, 1, none⟩ = some (.int .i64 a0_1) := (blk_cell (blk_below PA0.out HB.out) 1).trans rfl
  have hzA : w.heap.size < w21.heap.size := Nat.lt_of_lt_of_le (blk_lt PA0.out) HB.out.size
  clear Ht0_0 Ht1
  go_wp2_with fail
  go_at_call 26
  refine (laws_eqIntSS.calls k6 _ _ r0 _ _ r0 true _ ?s22_hr0 ?s22_hc0 ?s22_hr1 ?s22_hc1 XhE.out).mono ?_
  (case s22_hr0 => exact Kd.F_now (by repeat (first | (with_reducible exact Hh0.out) | (with_reducible apply Kd.F_alloc) | (with_reducible apply Kd.F_drewN) | (with_reducible apply Kd.F_drew))))
  (case s22_hc0 => exact LEh0.out)
  (case s22_hr1 => exact Kd.F_now (by repeat (first | (with_reducible exact Hw0.out) | (with_reducible apply Kd.F_alloc) | (with_reducible apply Kd.F_drewN) | (with_reducible apply Kd.F_drew))))
  (case s22_hc1 => exact LEw0.out)
  rintro e w22 ⟨rfl, hb0⟩
  have hb := Drawn0.below hb0
  clear hb0
  have n0_ := Aside0.mk (Kd.F_below (by repeat (first | (with_reducible exact Hw0.out) | (with_reducible apply Kd.F_alloc) | (with_reducible apply Kd.F_drewN) | (with_reducible apply Kd.F_drew))) hb)
  have n1_ := Aside0.mk (Kd.S_below (by repeat (first | (with_reducible exact Hg0.out) | (with_reducible apply Kd.S_alloc) | (with_reducible apply Kd.S_drewN) | (with_reducible apply Kd.S_drew))) hb)
  have n2_ := Aside0.mk (Kd.F_below (by repeat (first | (with_reducible exact Hh0.out) | (with_reducible apply Kd.F_alloc) | (with_reducible apply Kd.F_drewN) | (with_reducible apply Kd.F_drew))) hb)
  have nb_ := Aside0.mk (below_step (by repeat (first | (with_reducible exact HB.out) | (with_reducible apply below_alloc) | (with_reducible apply pw_below_drewN) | (with_reducible apply below_drew1))) hb)
  have zw_ := hb.size
  (try simp only [World.size_alloc, size_drew_, size_drewN_] at zw_)
  have ZW22 := Aside0.mk zw_
  clear zw_
  clear HB Hw0 Hg0 Hh0
  have HB := nb_
  have Hw0 := n0_
  have Hg0 := n1_
  have Hh0 := n2_
  clear nb_ n0_ n1_ n2_
  clear hb
  clear xa0_0 xa0_1 hzA
  have xa0_0 : w22.cell? ⟨w.heap.size, 0, none⟩ = some (.slice A0_0 l0_0.length c0_0) := (blk_cell (blk_below PA0.out HB.out) 0).trans rfl
  have xa0_1 : w22.cell? ⟨w.heap.size, 1, none⟩ = some (.int .i64 a0_1) := (blk_cell (blk_below PA0.out HB.out) 1).trans rfl
  have hzA : w.heap.size < w22.heap.size := Nat.lt_of_lt_of_le (blk_lt PA0.out) HB.out.size
  go_wp2_with fail
  go_at_call 30
  refine (laws_heldIntSS_n k10 _ _ yg0 1 q1 _ ?s23_hr0 ?s23_hc0 XhH.out r0.length ?s23_n0).mono ?_
  (case s23_hr0 => exact (Kd.S_reads' (by repeat (first | (with_reducible exact Hg0.out) | (with_reducible apply Kd.S_alloc) | (with_reducible apply Kd.S_drewN) | (with_reducible apply Kd.S_drew)))).2.2)
  (case s23_hc0 => exact Nat.le_trans (Nat.le_of_eq (Kd.S_reads' Hg0.out).1.symm) (Kd.S_reads' Hg0.out).2.1)
  (case s23_n0 => exact (Kd.S_reads' Hg0.out).1)
  rintro e w23 ⟨rfl, hb0⟩
  have hb := Drawn0.below hb0
  clear hb0
  have n0_ := Aside0.mk (Kd.F_below (by repeat (first | (with_reducible exact Hw0.out) | (with_reducible apply Kd.F_alloc) | (with_reducible apply Kd.F_drewN) | (with_reducible apply Kd.F_drew))) hb)
  have n1_ := Aside0.mk (Kd.S_below (by repeat (first | (with_reducible exact Hg0.out) | (with_reducible apply Kd.S_alloc) | (with_reducible apply Kd.S_drewN) | (with_reducible apply Kd.S_drew))) hb)
  have n2_ := Aside0.mk (Kd.F_below (by repeat (first | (with_reducible exact Hh0.out) | (with_reducible apply Kd.F_alloc) | (with_reducible apply Kd.F_drewN) | (with_reducible apply Kd.F_drew))) hb)
  have nb_ := Aside0.mk (below_step (by repeat (first | (with_reducible exact HB.out) | (with_reducible apply below_alloc) | (with_reducible apply pw_below_drewN) | (with_reducible apply below_drew1))) hb)
  have zw_ := hb.size
  (try simp only [World.size_alloc, size_drew_, size_drewN_] at zw_)
  have ZW23 := Aside0.mk zw_
  clear zw_
  clear HB Hw0 Hg0 Hh0
  have HB := nb_
  have Hw0 := n0_
  have Hg0 := n1_
  have Hh0 := n2_
  clear nb_ n0_ n1_ n2_
  clear hb
  clear xa0_0 xa0_1 hzA
  have xa0_0 : w23.cell? ⟨w.heap.size, 0, none⟩ = some (.slice A0_0 l0_0.length c0_0) := (blk_cell (blk_below PA0.out HB.out) 0).trans rfl
  have xa0_1 : w23.cell? ⟨w.heap.size, 1, none⟩ = some (.int .i64 a0_1) := (blk_cell (blk_below PA0.out HB.out) 1).trans rfl
  have hzA : w.heap.size < w23.heap.size := Nat.lt_of_lt_of_le (blk_lt PA0.out) HB.out.size
  go_wp2
  go_ret
  exact ⟨rfl, HA.out.trans (HB.out.mono HA.out.size)⟩
set_option maxHeartbeats 2000000 in
set_option maxRecDepth 100000 in
theorem FnExactBackPlan_short0 (A0_0 : Option Addr) (c0_0 : Nat) (l0_0 : List Int) (a0_1 : Int) (A1 : Option Addr) (c1 : Nat) (l1 : List (List Int)) (w : World) (hr0_0 : Kd.C (Kd.int .i64) w A0_0 l0_0.length l0_0) (hc0_0 : l0_0.length ≤ c0_0) (hr1 : Kd.C (Kd.slice 3 (Kd.int .i64)) w A1 l1.length l1) (hc1 : l1.length ≤ c1)  (u0 : Int) (hU0 : laws_szParty.f l0_0 a0_1 1048576 = some u0) (oU0 : u0 < 0) :
    Calls Try.prog 4 #[.agg #[.slice A0_0 l0_0.length c0_0, .int .i64 a0_1], .slice A1 l1.length c1] w fun e w' => e = .returned (.bool true) ∧ Below w.heap.size w w' := by
  have hu46_ := Try.underlying46
  have W0_0 := Aside0.mk hr0_0
  have W1 := Aside0.mk hr1
  clear hr0_0 hr1
  have XhU0 := Aside0.mk hU0
  clear hU0
  have doU0 := decide_eq_true oU0
  clear oU0
  go_enter Try.func4, Try.ntmps4
  go_wp2_with fail
  have NB := Aside0.mk (lay1 w (.cells #[.slice A0_0 l0_0.length c0_0, .int .i64 a0_1] 46))
  generalize (w.alloc (.cells #[.slice A0_0 l0_0.length c0_0, .int .i64 a0_1] 46)) = wA at *
  have PA0 := Aside0.mk NB.out.1
  have HA := Aside0.mk NB.out.2
  clear NB
  have RA0_0 := Aside0.mk (Kd.C_below W0_0.out HA.out)
  have RA1 := Aside0.mk (Kd.C_below W1.out HA.out)
  clear W0_0 W1
  have HB := Aside0.mk (Below.refl wA.heap.size wA)
  go_wp2_with fail
  go_at_call 20
  refine (laws_szParty.calls _ _ l0_0 a0_1 1048576 u0 _ ?s901_hr0_0 ?s901_hc0_0 XhU0.out).mono ?_
  (case s901_hr0_0 => exact Kd.C_below RA0_0.out (by repeat (first | (with_reducible exact HB.out) | (with_reducible apply below_alloc) | (with_reducible apply pw_below_drewN) | (with_reducible apply below_drew1))))
  (case s901_hc0_0 => exact hc0_0)
  rintro e w1 ⟨rfl, hb⟩
  have nb_ := Aside0.mk (below_step (by repeat (first | (with_reducible exact HB.out) | (with_reducible apply below_alloc) | (with_reducible apply pw_below_drewN) | (with_reducible apply below_drew1))) hb)
  have zw_ := hb.size
  (try simp only [World.size_alloc, size_drew_, size_drewN_] at zw_)
  have ZW1 := Aside0.mk zw_
  clear zw_
  clear HB
  have HB := nb_
  clear nb_
  clear hb
  have xa0_0 : w1.cell? ⟨w.heap.size, 0, none⟩ = some (.slice A0_0 l0_0.length c0_0) := (blk_cell (blk_below PA0.out HB.out) 0).trans rfl
  have xa0_1 : w1.cell? ⟨w.heap.size, 1, none⟩ = some (.int .i64 a0_1) := (blk_cell (blk_below PA0.out HB.out) 1).trans rfl
  have hzA : w.heap.size < w1.heap.size := Nat.lt_of_lt_of_le (blk_lt PA0.out) HB.out.size
  go_wp2
  go_ret
  exact ⟨rfl, HA.out.trans (HB.out.mono HA.out.size)⟩
set_option maxHeartbeats 2000000 in
set_option maxRecDepth 100000 in
theorem FnExactBackPlan_short1 (A0_0 : Option Addr) (c0_0 : Nat) (l0_0 : List Int) (a0_1 : Int) (A1 : Option Addr) (c1 : Nat) (l1 : List (List Int)) (w : World) (hr0_0 : Kd.C (Kd.int .i64) w A0_0 l0_0.length l0_0) (hc0_0 : l0_0.length ≤ c0_0) (hr1 : Kd.C (Kd.slice 3 (Kd.int .i64)) w A1 l1.length l1) (hc1 : l1.length ≤ c1)  (u0 : Int) (hU0 : laws_szParty.f l0_0 a0_1 1048576 = some u0) (nU0 : ¬ u0 < 0) (u1 : Int) (k1 : Nat) (hU1 : laws_szIntSS.f k1 l1 u0 = some u1) (oU1 : u1 < 0) :
    Calls Try.prog 4 #[.agg #[.slice A0_0 l0_0.length c0_0, .int .i64 a0_1], .slice A1 l1.length c1] w fun e w' => e = .returned (.bool true) ∧ Below w.heap.size w w' := by
  have hu46_ := Try.underlying46
  have W0_0 := Aside0.mk hr0_0
  have W1 := Aside0.mk hr1
  clear hr0_0 hr1
  have XhU0 := Aside0.mk hU0
  clear hU0
  have dnU0 := decide_eq_false nU0
  clear nU0
  have XhU1 := Aside0.mk hU1
  clear hU1
  have doU1 := decide_eq_true oU1
  clear oU1
  go_enter Try.func4, Try.ntmps4
  go_wp2_with fail
  have NB := Aside0.mk (lay1 w (.cells #[.slice A0_0 l0_0.length c0_0, .int .i64 a0_1] 46))
  generalize (w.alloc (.cells #[.slice A0_0 l0_0.length c0_0, .int .i64 a0_1] 46)) = wA at *
  have PA0 := Aside0.mk NB.out.1
  have HA := Aside0.mk NB.out.2
  clear NB
  have RA0_0 := Aside0.mk (Kd.C_below W0_0.out HA.out)
  have RA1 := Aside0.mk (Kd.C_below W1.out HA.out)
  clear W0_0 W1
  have HB := Aside0.mk (Below.refl wA.heap.size wA)
  go_wp2_with fail
  go_at_call 20
  refine (laws_szParty.calls _ _ l0_0 a0_1 1048576 u0 _ ?s901_hr0_0 ?s901_hc0_0 XhU0.out).mono ?_
  (case s901_hr0_0 => exact Kd.C_below RA0_0.out (by repeat (first | (with_reducible exact HB.out) | (with_reducible apply below_alloc) | (with_reducible apply pw_below_drewN) | (with_reducible apply below_drew1))))
  (case s901_hc0_0 => exact hc0_0)
  rintro e w1 ⟨rfl, hb⟩
  have nb_ := Aside0.mk (below_step (by repeat (first | (with_reducible exact HB.out) | (with_reducible apply below_alloc) | (with_reducible apply pw_below_drewN) | (with_reducible apply below_drew1))) hb)
  have zw_ := hb.size
  (try simp only [World.size_alloc, size_drew_, size_drewN_] at zw_)
  have ZW1 := Aside0.mk zw_
  clear zw_
  clear HB
  have HB := nb_
  clear nb_
  clear hb
  have xa0_0 : w1.cell? ⟨w.heap.size, 0, none⟩ = some (.slice A0_0 l0_0.length c0_0) := (blk_cell (blk_below PA0.out HB.out) 0).trans rfl
  have xa0_1 : w1.cell? ⟨w.heap.size, 1, none⟩ = some (.int .i64 a0_1) := (blk_cell (blk_below PA0.out HB.out) 1).trans rfl
  have hzA : w.heap.size < w1.heap.size := Nat.lt_of_lt_of_le (blk_lt PA0.out) HB.out.size
  go_wp2_with fail
  go_at_call 21
  refine (laws_szIntSS.calls k1 _ _ l1 u0 u1 _ ?s902_hr0 ?s902_hc0 XhU1.out).mono ?_
  (case s902_hr0 => exact Kd.C_below RA1.out (by repeat (first | (with_reducible exact HB.out) | (with_reducible apply below_alloc) | (with_reducible apply pw_below_drewN) | (with_reducible apply below_drew1))))
  (case s902_hc0 => exact hc1)
  rintro e w2 ⟨rfl, hb0⟩
  have hb := Drawn0.below hb0
  clear hb0
  have nb_ := Aside0.mk (below_step (by repeat (first | (with_reducible exact HB.out) | (with_reducible apply below_alloc) | (with_reducible apply pw_below_drewN) | (with_reducible apply below_drew1))) hb)
  have zw_ := hb.size
  (try simp only [World.size_alloc, size_drew_, size_drewN_] at zw_)
  have ZW2 := Aside0.mk zw_
  clear zw_
  clear HB
  have HB := nb_
  clear nb_
  clear hb
  clear xa0_0 xa0_1 hzA
  have xa0_0 : w2.cell? ⟨w.heap.size, 0, none⟩ = some (.slice A0_0 l0_0.length c0_0) := (blk_cell (blk_below PA0.out HB.out) 0).trans rfl
  have xa0_1 : w2.cell? ⟨w.heap.size, 1, none⟩ = some (.int .i64 a0_1) := (blk_cell (blk_below PA0.out HB.out) 1).trans rfl
  have hzA : w.heap.size < w2.heap.size := Nat.lt_of_lt_of_le (blk_lt PA0.out) HB.out.size
  go_wp2
  go_ret
  exact ⟨rfl, HA.out.trans (HB.out.mono HA.out.size)⟩
end Go.Proofs.Ytdomojenlofieaa.Walk
