import Derived.Test.YtihieplobgehaaaC1zx0
import Derived.Test.YtihieplobgehaaaC1zx1
import Derived.Test.YtihieplobgehaaaC1zx14
import Derived.Test.YtihieplobgehaaaC1zx15
import Derived.Test.YtihieplobgehaaaC1zx16
import Derived.Test.YtihieplobgehaaaC1zx8
import Derived.Test.YtihieplobgehaaaC1zH0
import Derived.Test.YtihieplobgehaaaC1zH2
namespace Go.Proofs.Ytihieplobgehaaa.Walk
open Go.RowKit Go.Proofs.YtihieplobgehaaaW.PrintWords Go.Proofs.YtihieplobgehaaaW.PrintLast Go.Proofs.YtihieplobgehaaaW.PrintMore Go.Proofs.Ytihieplobgehaaa.C1 Go.Proofs.Ytihieplobgehaaa.H
attribute [local go_sem] max2_int min2_int max_two min_two max_three min_three max_four min_four
set_option linter.unusedVariables false
set_option linter.unusedSimpArgs false
theorem laws_heldStateS_n (k : Nat) (A0 : Option Addr) (c0 : Nat) (l0 : List (S54)) (a1 : Int) (r : Int) (w : World) (hr0 : Kd.C k54 w A0 l0.length l0) (hc0 : l0.length ≤ c0) (h : laws_heldStateS.f k l0 a1 = some r)  (n0 : Nat) (en0 : n0 = l0.length) :
    Calls Try.prog 15 #[.slice A0 n0 c0, .int .i64 a1] w fun e w' => e = .returned (.int .i64 r) ∧ Drawn0 w w' := by
  subst en0
  exact laws_heldStateS.calls k A0 c0 l0 a1 r w hr0 hc0 h
set_option maxHeartbeats 8000000 in
set_option maxRecDepth 100000 in
theorem FnExactFarthestStates_walk (A0_0 : Option Addr) (c0_0 : Nat) (l0_0 : List Int) (a0_1 : Int) (r0 : List S54) (r1 : Int) (r2 : Bool) (m0 : Int) (q1 : Int) (u0 : Int) (yg0 : List S54) (yx0_0 : List Int) (k1 : Nat) (k2 : Nat) (k3 : Nat) (k4 : Nat) (k5 : Nat) (k6 : Nat) (k7 : Nat) (w : World) (hr0_0 : Kd.C (Kd.int .i64) w A0_0 l0_0.length l0_0) (hc0_0 : l0_0.length ≤ c0_0)  (hU0 : laws_szParty.f l0_0 a0_1 1048576 = some u0) (nU0 : ¬ u0 < 0) (hT0 : laws_toParty.f k1 l0_0 a0_1 = some (l0_0, a0_1)) (hS : spec_FarthestStates.f k2 l0_0 a0_1 = some (r0, r1, r2)) (hI : impl_FarthestStates.f k3 l0_0 a0_1 = some (r0, r1, r2)) (hE : laws_eqStateS.f k4 r0 r0 = some true) (hEA0 : laws_eqParty.f k5 l0_0 a0_1 l0_0 a0_1 = some true) (hM0 : laws_markParty.f k6 l0_0 a0_1 1 = some (m0, yx0_0)) (nM : ¬ m0 < 0) (hMR : laws_markStateS.f r0 1 = some (q1, yg0)) (hH : laws_heldStateS.f k7 yg0 1 = some q1) (nQ : ¬ q1 < 0) :
    Calls Try.prog 4 #[.agg #[.slice A0_0 l0_0.length c0_0, .int .i64 a0_1]] w fun e w' => e = .returned (.bool true) ∧ Below w.heap.size w w' := by
  have hu24_ := Try.underlying24
  have hu28_ := Try.underlying28
  have W0_0 := Aside0.mk hr0_0
  clear hr0_0
  have XhU0 := Aside0.mk hU0
  clear hU0
  have dnU0 := decide_eq_false nU0
  clear nU0
  have XhT0 := Aside0.mk hT0
  clear hT0
  have XhS := Aside0.mk hS
  clear hS
  have XhI := Aside0.mk hI
  clear hI
  have XhE := Aside0.mk hE
  clear hE
  have XhEA0 := Aside0.mk hEA0
  clear hEA0
  have XhM0 := Aside0.mk hM0
  clear hM0
  have dnM := decide_eq_false nM
  clear nM
  have XhMR := Aside0.mk hMR
  clear hMR
  have XhH := Aside0.mk hH
  clear hH
  have dnQ := decide_eq_false nQ
  clear nQ
  go_enter Try.func4, Try.ntmps4
  go_wp2_with fail
  have NB := Aside0.mk (lay1 w (.cells #[.slice A0_0 l0_0.length c0_0, .int .i64 a0_1] 24))
  generalize (w.alloc (.cells #[.slice A0_0 l0_0.length c0_0, .int .i64 a0_1] 24)) = wA at *
  have PA0 := Aside0.mk NB.out.1
  have HA := Aside0.mk NB.out.2
  clear NB
  have RA0_0 := Aside0.mk (Kd.C_below W0_0.out HA.out)
  clear W0_0
  have HB := Aside0.mk (Below.refl wA.heap.size wA)
  go_wp2_with fail
  go_at_call 5
  refine (laws_szParty.calls _ _ l0_0 a0_1 1048576 u0 _ ?s1_hr0_0 ?s1_hc0_0 XhU0.out).mono ?_
  (case s1_hr0_0 => exact Kd.C_below RA0_0.out (by repeat (first | (with_reducible exact HB.out) | (with_reducible apply below_alloc) | (with_reducible apply pw_below_drewN) | (with_reducible apply below_drew1))))
  (case s1_hc0_0 => exact hc0_0)
  rintro e w1 ⟨rfl, hb⟩
  have nb_ := Aside0.mk (below_step (by repeat (first | (with_reducible exact HB.out) | (with_reducible apply below_alloc) | (with_reducible apply pw_below_drewN) | (with_reducible apply below_drew1))) hb)
  have zw_ := hb.size
  (try simp only [World.size_alloc, size_drew_, size_drewN_] at zw_)
  have ZW1 := Aside0.mk zw_
  clear zw_
  clear HB
  have HB := nb_
  clear nb_
  clear hb
  have xa0_0 : w1.cell? ⟨w.heap.size, 0, none⟩ = some (.slice A0_0 l0_0.length c0_0) := (blk_cell (blk_below PA0.out HB.out) 0).trans rfl
  have xa0_1 : w1.cell? ⟨w.heap.size, 1, none⟩ = some (.int .i64 a0_1) := (blk_cell (blk_below PA0.out HB.out) 1).trans rfl
  have hzA : w.heap.size < w1.heap.size := Nat.lt_of_lt_of_le (blk_lt PA0.out) HB.out.size
  go_wp2_with fail
  go_at_call 7
  refine (laws_toParty.calls k1 _ _ l0_0 a0_1 l0_0 a0_1 _ ?s2_hr0_0 ?s2_hc0_0 XhT0.out).mono ?_
  (case s2_hr0_0 => exact Kd.C_below RA0_0.out (by repeat (first | (with_reducible exact HB.out) | (with_reducible apply below_alloc) | (with_reducible apply pw_below_drewN) | (with_reducible apply below_drew1))))
  (case s2_hc0_0 => exact hc0_0)
  rintro e w2 ⟨vt0_0, rfl, ht0_0, hb⟩
  obtain ⟨Bt0_0, dt0_0, et0_0⟩ := Kd.R_slice ht0_0
  subst et0_0
  have nb_ := Aside0.mk (below_step (by repeat (first | (with_reducible exact HB.out) | (with_reducible apply below_alloc) | (with_reducible apply pw_below_drewN) | (with_reducible apply below_drew1))) hb)
  have zw_ := hb.size
  (try simp only [World.size_alloc, size_drew_, size_drewN_] at zw_)
  have ZW2 := Aside0.mk zw_
  clear zw_
  clear HB
  have HB := nb_
  clear nb_
  have Ht0_0 := Aside0.mk ht0_0
  clear ht0_0
  clear hb
  clear xa0_0 xa0_1 hzA
  have xa0_0 : w2.cell? ⟨w.heap.size, 0, none⟩ = some (.slice A0_0 l0_0.length c0_0) := (blk_cell (blk_below PA0.out HB.out) 0).trans rfl
  have xa0_1 : w2.cell? ⟨w.heap.size, 1, none⟩ = some (.int .i64 a0_1) := (blk_cell (blk_below PA0.out HB.out) 1).trans rfl
  have hzA : w.heap.size < w2.heap.size := Nat.lt_of_lt_of_le (blk_lt PA0.out) HB.out.size
  go_wp2_with fail
  go_at_call 10
  refine (spec_FarthestStates.calls k2 _ _ l0_0 a0_1 r0 r1 r2 _ ?s3_hr0_0 ?s3_hc0_0 XhS.out).mono ?_
  (case s3_hr0_0 => exact (Kd.R_reads' (by repeat (first | (with_reducible exact Ht0_0.out) | (with_reducible apply Kd.R_alloc) | (with_reducible apply Kd.R_drewN) | (with_reducible apply Kd.R_drew)))).2.2)
  (case s3_hc0_0 => exact (Kd.R_reads' Ht0_0.out).2.1)
  rintro e w3 ⟨vw0, rfl, hw0, hb⟩
  obtain ⟨Bw0, dw0, sw0, ew0, es_, LE_, hx_⟩ := S_foot hw0
  subst ew0
  clear hw0
  have LEw0 := Aside0.mk LE_
  have ESw0 := Aside0.mk es_
  have hw0 := hx_
  clear hx_ LE_ es_
  have n0_ := Aside0.mk (Kd.R_below (by repeat (first | (with_reducible exact Ht0_0.out) | (with_reducible apply Kd.R_alloc) | (with_reducible apply Kd.R_drewN) | (with_reducible apply Kd.R_drew))) hb)
  have nb_ := Aside0.mk (below_step (by repeat (first | (with_reducible exact HB.out) | (with_reducible apply below_alloc) | (with_reducible apply pw_below_drewN) | (with_reducible apply below_drew1))) hb)
  have zw_ := hb.size
  (try simp only [World.size_alloc, size_drew_, size_drewN_] at zw_)
  have ZW3 := Aside0.mk zw_
  clear zw_
  clear HB Ht0_0
  have HB := nb_
  have Ht0_0 := n0_
  clear nb_ n0_
  have Hw0 := Aside0.mk hw0
  clear hw0
  clear hb
  clear xa0_0 xa0_1 hzA
  have xa0_0 : w3.cell? ⟨w.heap.size, 0, none⟩ = some (.slice A0_0 l0_0.length c0_0) := (blk_cell (blk_below PA0.out HB.out) 0).trans rfl
  have xa0_1 : w3.cell? ⟨w.heap.size, 1, none⟩ = some (.int .i64 a0_1) := (blk_cell (blk_below PA0.out HB.out) 1).trans rfl
  have hzA : w.heap.size < w3.heap.size := Nat.lt_of_lt_of_le (blk_lt PA0.out) HB.out.size
  clear Ht0_0
  go_wp2_with fail
  go_at_call 7
  refine (laws_toParty.calls k1 _ _ l0_0 a0_1 l0_0 a0_1 _ ?s4_hr0_0 ?s4_hc0_0 XhT0.out).mono ?_
  (case s4_hr0_0 => exact Kd.C_below RA0_0.out (by repeat (first | (with_reducible exact HB.out) | (with_reducible apply below_alloc) | (with_reducible apply pw_below_drewN) | (with_reducible apply below_drew1))))
  (case s4_hc0_0 => exact hc0_0)
  rintro e w4 ⟨vx0_0, rfl, hx0_0, hb⟩
  obtain ⟨lox0_0, hix0_0, elx0_0, ehx0_0, zlx0_0, zhx0_0, hx_⟩ := R_span hx0_0 hb (by repeat (first | (with_reducible exact HB.out) | (with_reducible apply below_alloc) | (with_reducible apply pw_below_drewN) | (with_reducible apply below_drew1)))
  clear hx0_0
  have hx0_0 := hx_
  clear hx_
  (try simp only [World.size_alloc, size_drew_, size_drewN_] at elx0_0)
  have Zx0_0 := Aside0.mk (And.intro elx0_0 (And.intro ehx0_0 (And.intro zlx0_0 zhx0_0)))
  clear elx0_0 ehx0_0 zlx0_0 zhx0_0
  obtain ⟨Bx0_0, dx0_0, ex0_0⟩ := Kd.R_slice hx0_0
  subst ex0_0
  have n0_ := Aside0.mk (Kd.F_below (by repeat (first | (with_reducible exact Hw0.out) | (with_reducible apply Kd.F_alloc) | (with_reducible apply Kd.F_drewN) | (with_reducible apply Kd.F_drew))) hb)
  have nb_ := Aside0.mk (below_step (by repeat (first | (with_reducible exact HB.out) | (with_reducible apply below_alloc) | (with_reducible apply pw_below_drewN) | (with_reducible apply below_drew1))) hb)
  have zw_ := hb.size
  (try simp only [World.size_alloc, size_drew_, size_drewN_] at zw_)
  have ZW4 := Aside0.mk zw_
  clear zw_
  clear HB Hw0
  have HB := nb_
  have Hw0 := n0_
  clear nb_ n0_
  have Hx0_0 := Aside0.mk hx0_0
  clear hx0_0
  clear hb
  clear xa0_0 xa0_1 hzA
  have xa0_0 : w4.cell? ⟨w.heap.size, 0, none⟩ = some (.slice A0_0 l0_0.length c0_0) := (blk_cell (blk_below PA0.out HB.out) 0).trans rfl
  have xa0_1 : w4.cell? ⟨w.heap.size, 1, none⟩ = some (.int .i64 a0_1) := (blk_cell (blk_below PA0.out HB.out) 1).trans rfl
  have hzA : w.heap.size < w4.heap.size := Nat.lt_of_lt_of_le (blk_lt PA0.out) HB.out.size
  have BXx0 := Aside0.mk (heap_alloc_new w4 (.cells #[.slice Bx0_0 l0_0.length dx0_0, .int .i64 a0_1] 28))
  go_wp2_with fail
  go_at_call 11
  refine (impl_FarthestStates.calls k3 _ _ l0_0 a0_1 r0 r1 r2 _ ?s5_hr0_0 ?s5_hc0_0 XhI.out).mono ?_
  (case s5_hr0_0 => exact (Kd.R_reads' (by repeat (first | (with_reducible exact Hx0_0.out) | (with_reducible apply Kd.R_alloc) | (with_reducible apply Kd.R_drewN) | (with_reducible apply Kd.R_drew)))).2.2)
  (case s5_hc0_0 => exact (Kd.R_reads' Hx0_0.out).2.1)
  rintro e w5 ⟨vg0, rfl, hg0, hb⟩
  obtain ⟨log0, hig0, elg0, ehg0, zlg0, zhg0, hx_⟩ := S_span hg0 hb (by repeat (first | (with_reducible exact HB.out) | (with_reducible apply below_alloc) | (with_reducible apply pw_below_drewN) | (with_reducible apply below_drew1)))
  clear hg0
  have hg0 := hx_
  clear hx_
  (try simp only [World.size_alloc, size_drew_, size_drewN_] at elg0)
  have Zg0 := Aside0.mk (And.intro elg0 (And.intro ehg0 (And.intro zlg0 zhg0)))
  clear elg0 ehg0 zlg0 zhg0
  obtain ⟨Bg0, dg0, eg0⟩ := Kd.S_slice hg0
  subst eg0
  have n0_ := Aside0.mk (Kd.F_below (by repeat (first | (with_reducible exact Hw0.out) | (with_reducible apply Kd.F_alloc) | (with_reducible apply Kd.F_drewN) | (with_reducible apply Kd.F_drew))) hb)
  have n1_ := Aside0.mk (Kd.R_below (by repeat (first | (with_reducible exact Hx0_0.out) | (with_reducible apply Kd.R_alloc) | (with_reducible apply Kd.R_drewN) | (with_reducible apply Kd.R_drew))) hb)
  have n2_ := Aside0.mk (blk_below (g := w4.heap.size) (o := .cells #[.slice Bx0_0 l0_0.length dx0_0, .int .i64 a0_1] 28) (by repeat (first | (with_reducible exact BXx0.out) | (with_reducible refine blk_drewN ?_ _) | (with_reducible refine blk_drew ?_) | (with_reducible refine blk_alloc ?_ _))) hb)
  have nb_ := Aside0.mk (below_step (by repeat (first | (with_reducible exact HB.out) | (with_reducible apply below_alloc) | (with_reducible apply pw_below_drewN) | (with_reducible apply below_drew1))) hb)
  have zw_ := hb.size
  (try simp only [World.size_alloc, size_drew_, size_drewN_] at zw_)
  have ZW5 := Aside0.mk zw_
  clear zw_
  clear HB Hw0 Hx0_0 BXx0
  have HB := nb_
  have Hw0 := n0_
  have Hx0_0 := n1_
  have BXx0 := n2_
  clear nb_ n0_ n1_ n2_
  have Hg0 := Aside0.mk hg0
  clear hg0
  clear hb
  clear xa0_0 xa0_1 hzA
  have xa0_0 : w5.cell? ⟨w.heap.size, 0, none⟩ = some (.slice A0_0 l0_0.length c0_0) := (blk_cell (blk_below PA0.out HB.out) 0).trans rfl
  have xa0_1 : w5.cell? ⟨w.heap.size, 1, none⟩ = some (.int .i64 a0_1) := (blk_cell (blk_below PA0.out HB.out) 1).trans rfl
  have BXx0c0 : w5.cell? ⟨w4.heap.size, 0, none⟩ = some (.slice Bx0_0 l0_0.length dx0_0) := (blk_cell BXx0.out 0).trans rfl
  have BXx0c1 : w5.cell? ⟨w4.heap.size, 1, none⟩ = some (.int .i64 a0_1) := (blk_cell BXx0.out 1).trans rfl
  have hzA : w.heap.size < w5.heap.size := Nat.lt_of_lt_of_le (blk_lt PA0.out) HB.out.size
  have hzBXx0 : w4.heap.size < w5.heap.size := blk_lt BXx0.out
  go_wp2_with fail
  go_at_call 12
  refine (laws_eqStateS.calls k4 _ _ r0 _ _ r0 true _ ?s6_hr0 ?s6_hc0 ?s6_hr1 ?s6_hc1 XhE.out).mono ?_
  (case s6_hr0 => exact (Kd.S_reads' (by repeat (first | (with_reducible exact Hg0.out) | (with_reducible apply Kd.S_alloc) | (with_reducible apply Kd.S_drewN) | (with_reducible apply Kd.S_drew)))).2.2)
  (case s6_hc0 => exact (Kd.S_reads' Hg0.out).2.1)
  (case s6_hr1 => exact Kd.F_now (by repeat (first | (with_reducible exact Hw0.out) | (with_reducible apply Kd.F_alloc) | (with_reducible apply Kd.F_drewN) | (with_reducible apply Kd.F_drew))))
  (case s6_hc1 => exact LEw0.out)
  rintro e w6 ⟨rfl, hb⟩
  have n0_ := Aside0.mk (Kd.F_below (by repeat (first | (with_reducible exact Hw0.out) | (with_reducible apply Kd.F_alloc) | (with_reducible apply Kd.F_drewN) | (with_reducible apply Kd.F_drew))) hb)
  have n1_ := Aside0.mk (Kd.R_below (by repeat (first | (with_reducible exact Hx0_0.out) | (with_reducible apply Kd.R_alloc) | (with_reducible apply Kd.R_drewN) | (with_reducible apply Kd.R_drew))) hb)
  have n2_ := Aside0.mk (blk_below (g := w4.heap.size) (o := .cells #[.slice Bx0_0 l0_0.length dx0_0, .int .i64 a0_1] 28) (by repeat (first | (with_reducible exact BXx0.out) | (with_reducible refine blk_drewN ?_ _) | (with_reducible refine blk_drew ?_) | (with_reducible refine blk_alloc ?_ _))) hb)
  have n3_ := Aside0.mk (Kd.S_below (by repeat (first | (with_reducible exact Hg0.out) | (with_reducible apply Kd.S_alloc) | (with_reducible apply Kd.S_drewN) | (with_reducible apply Kd.S_drew))) hb)
  have nb_ := Aside0.mk (below_step (by repeat (first | (with_reducible exact HB.out) | (with_reducible apply below_alloc) | (with_reducible apply pw_below_drewN) | (with_reducible apply below_drew1))) hb)
  have zw_ := hb.size
  (try simp only [World.size_alloc, size_drew_, size_drewN_] at zw_)
  have ZW6 := Aside0.mk zw_
  clear zw_
  clear HB Hw0 Hx0_0 BXx0 Hg0
  have HB := nb_
  have Hw0 := n0_
  have Hx0_0 := n1_
  have BXx0 := n2_
  have Hg0 := n3_
  clear nb_ n0_ n1_ n2_ n3_
  clear hb
  clear xa0_0 xa0_1 BXx0c0 BXx0c1 hzA hzBXx0
  have xa0_0 : w6.cell? ⟨w.heap.size, 0, none⟩ = some (.slice A0_0 l0_0.length c0_0) := (blk_cell (blk_below PA0.out HB.out) 0).trans rfl
  have xa0_1 : w6.cell? ⟨w.heap.size, 1, none⟩ = some (.int .i64 a0_1) := (blk_cell (blk_below PA0.out HB.out) 1).trans rfl
  have BXx0c0 : w6.cell? ⟨w4.heap.size, 0, none⟩ = some (.slice Bx0_0 l0_0.length dx0_0) := (blk_cell BXx0.out 0).trans rfl
  have BXx0c1 : w6.cell? ⟨w4.heap.size, 1, none⟩ = some (.int .i64 a0_1) := (blk_cell BXx0.out 1).trans rfl
  have hzA : w.heap.size < w6.heap.size := Nat.lt_of_lt_of_le (blk_lt PA0.out) HB.out.size
  have hzBXx0 : w4.heap.size < w6.heap.size := blk_lt BXx0.out
  go_wp2_with fail
  go_region_held3 (fun w' => w'.cell? ⟨w.heap.size, 0, none⟩ = some (.slice A0_0 l0_0.length c0_0) ∧ w'.cell? ⟨w.heap.size, 1, none⟩ = some (.int .i64 a0_1) ∧ w'.cell? ⟨w4.heap.size, 0, none⟩ = some (.slice Bx0_0 l0_0.length dx0_0) ∧ w'.cell? ⟨w4.heap.size, 1, none⟩ = some (.int .i64 a0_1)) (first | (exact ⟨(blk_cell (blk_below PA0.out (by repeat (first | (with_reducible exact HB.out) | (with_reducible apply below_alloc) | (with_reducible apply pw_below_drewN) | (with_reducible apply below_drew1)))) 0).trans rfl, (blk_cell (blk_below PA0.out (by repeat (first | (with_reducible exact HB.out) | (with_reducible apply below_alloc) | (with_reducible apply pw_below_drewN) | (with_reducible apply below_drew1)))) 1).trans rfl, (blk_cell (by repeat (first | (with_reducible exact BXx0.out) | (with_reducible refine blk_drewN ?_ _) | (with_reducible refine blk_drew ?_) | (with_reducible refine blk_alloc ?_ _))) 0).trans rfl, (blk_cell (by repeat (first | (with_reducible exact BXx0.out) | (with_reducible refine blk_drewN ?_ _) | (with_reducible refine blk_drew ?_) | (with_reducible refine blk_alloc ?_ _))) 1).trans rfl⟩) | go_keep)
    (first | ((go_at_call 7; refine (laws_toParty.calls k1 _ _ l0_0 a0_1 l0_0 a0_1 _ ?s7_hr0_0 ?s7_hc0_0 XhT0.out).mono ?_; (case s7_hr0_0 => exact Kd.C_below RA0_0.out (by repeat (first | (with_reducible exact HB.out) | (with_reducible apply below_alloc) | (with_reducible apply pw_below_drewN) | (with_reducible apply below_drew1)))); (case s7_hc0_0 => exact hc0_0); rintro e w7 ⟨vt0_0, rfl, ht0_0, hb⟩; obtain ⟨Bt0_0, dt0_0, et0_0⟩ := Kd.R_slice ht0_0; subst et0_0; have n0_ := Aside0.mk (Kd.F_below (by repeat (first | (with_reducible exact Hw0.out) | (with_reducible apply Kd.F_alloc) | (with_reducible apply Kd.F_drewN) | (with_reducible apply Kd.F_drew))) hb); have n1_ := Aside0.mk (Kd.R_below (by repeat (first | (with_reducible exact Hx0_0.out) | (with_reducible apply Kd.R_alloc) | (with_reducible apply Kd.R_drewN) | (with_reducible apply Kd.R_drew))) hb); have n2_ := Aside0.mk (blk_below (g := w4.heap.size) (o := .cells #[.slice Bx0_0 l0_0.length dx0_0, .int .i64 a0_1] 28) (by repeat (first | (with_reducible exact BXx0.out) | (with_reducible refine blk_drewN ?_ _) | (with_reducible refine blk_drew ?_) | (with_reducible refine blk_alloc ?_ _))) hb); have n3_ := Aside0.mk (Kd.S_below (by repeat (first | (with_reducible exact Hg0.out) | (with_reducible apply Kd.S_alloc) | (with_reducible apply Kd.S_drewN) | (with_reducible apply Kd.S_drew))) hb); have nb_ := Aside0.mk (below_step (by repeat (first | (with_reducible exact HB.out) | (with_reducible apply below_alloc) | (with_reducible apply pw_below_drewN) | (with_reducible apply below_drew1))) hb); have zw_ := hb.size; (try simp only [World.size_alloc, size_drew_, size_drewN_] at zw_); have ZW7 := Aside0.mk zw_; clear zw_; clear HB Hw0 Hx0_0 BXx0 Hg0; have HB := nb_; have Hw0 := n0_; have Hx0_0 := n1_; have BXx0 := n2_; have Hg0 := n3_; clear nb_ n0_ n1_ n2_ n3_; have Ht0_0 := Aside0.mk ht0_0; clear ht0_0; clear hb; clear xa0_0 xa0_1 BXx0c0 BXx0c1 hzA hzBXx0; have xa0_0 : w7.cell? ⟨w.heap.size, 0, none⟩ = some (.slice A0_0 l0_0.length c0_0) := (blk_cell (blk_below PA0.out HB.out) 0).trans rfl; have xa0_1 : w7.cell? ⟨w.heap.size, 1, none⟩ = some (.int .i64 a0_1) := (blk_cell (blk_below PA0.out HB.out) 1).trans rfl; have BXx0c0 : w7.cell? ⟨w4.heap.size, 0, none⟩ = some (.slice Bx0_0 l0_0.length dx0_0) := (blk_cell BXx0.out 0).trans rfl; have BXx0c1 : w7.cell? ⟨w4.heap.size, 1, none⟩ = some (.int .i64 a0_1) := (blk_cell BXx0.out 1).trans rfl; have hzA : w.heap.size < w7.heap.size := Nat.lt_of_lt_of_le (blk_lt PA0.out) HB.out.size; have hzBXx0 : w4.heap.size < w7.heap.size := blk_lt BXx0.out)) | ((go_at_call 9; refine (laws_eqParty.calls k5 _ _ l0_0 a0_1 _ _ l0_0 a0_1 true _ ?s8_hr0_0 ?s8_hc0_0 ?s8_hr1_0 ?s8_hc1_0 XhEA0.out).mono ?_; (case s8_hr0_0 => exact (Kd.R_reads' (by repeat (first | (with_reducible exact Hx0_0.out) | (with_reducible apply Kd.R_alloc) | (with_reducible apply Kd.R_drewN) | (with_reducible apply Kd.R_drew)))).2.2); (case s8_hc0_0 => exact (Kd.R_reads' Hx0_0.out).2.1); (case s8_hr1_0 => exact (Kd.R_reads' (by repeat (first | (with_reducible exact Ht0_0.out) | (with_reducible apply Kd.R_alloc) | (with_reducible apply Kd.R_drewN) | (with_reducible apply Kd.R_drew)))).2.2); (case s8_hc1_0 => exact (Kd.R_reads' Ht0_0.out).2.1); rintro e w8 ⟨rfl, hb⟩; have n0_ := Aside0.mk (Kd.F_below (by repeat (first | (with_reducible exact Hw0.out) | (with_reducible apply Kd.F_alloc) | (with_reducible apply Kd.F_drewN) | (with_reducible apply Kd.F_drew))) hb); have n1_ := Aside0.mk (Kd.R_below (by repeat (first | (with_reducible exact Hx0_0.out) | (with_reducible apply Kd.R_alloc) | (with_reducible apply Kd.R_drewN) | (with_reducible apply Kd.R_drew))) hb); have n2_ := Aside0.mk (blk_below (g := w4.heap.size) (o := .cells #[.slice Bx0_0 l0_0.length dx0_0, .int .i64 a0_1] 28) (by repeat (first | (with_reducible exact BXx0.out) | (with_reducible refine blk_drewN ?_ _) | (with_reducible refine blk_drew ?_) | (with_reducible refine blk_alloc ?_ _))) hb); have n3_ := Aside0.mk (Kd.S_below (by repeat (first | (with_reducible exact Hg0.out) | (with_reducible apply Kd.S_alloc) | (with_reducible apply Kd.S_drewN) | (with_reducible apply Kd.S_drew))) hb); have n4_ := Aside0.mk (Kd.R_below (by repeat (first | (with_reducible exact Ht0_0.out) | (with_reducible apply Kd.R_alloc) | (with_reducible apply Kd.R_drewN) | (with_reducible apply Kd.R_drew))) hb); have nb_ := Aside0.mk (below_step (by repeat (first | (with_reducible exact HB.out) | (with_reducible apply below_alloc) | (with_reducible apply pw_below_drewN) | (with_reducible apply below_drew1))) hb); have zw_ := hb.size; (try simp only [World.size_alloc, size_drew_, size_drewN_] at zw_); have ZW8 := Aside0.mk zw_; clear zw_; clear HB Hw0 Hx0_0 BXx0 Hg0 Ht0_0; have HB := nb_; have Hw0 := n0_; have Hx0_0 := n1_; have BXx0 := n2_; have Hg0 := n3_; have Ht0_0 := n4_; clear nb_ n0_ n1_ n2_ n3_ n4_; clear hb; clear xa0_0 xa0_1 BXx0c0 BXx0c1 hzA hzBXx0; have xa0_0 : w8.cell? ⟨w.heap.size, 0, none⟩ = some (.slice A0_0 l0_0.length c0_0) := (blk_cell (blk_below PA0.out HB.out) 0).trans rfl; have xa0_1 : w8.cell? ⟨w.heap.size, 1, none⟩ = some (.int .i64 a0_1) := (blk_cell (blk_below PA0.out HB.out) 1).trans rfl; have BXx0c0 : w8.cell? ⟨w4.heap.size, 0, none⟩ = some (.slice Bx0_0 l0_0.length dx0_0) := (blk_cell BXx0.out 0).trans rfl; have BXx0c1 : w8.cell? ⟨w4.heap.size, 1, none⟩ = some (.int .i64 a0_1) := (blk_cell BXx0.out 1).trans rfl; have hzA : w.heap.size < w8.heap.size := Nat.lt_of_lt_of_le (blk_lt PA0.out) HB.out.size; have hzBXx0 : w4.heap.size < w8.heap.size := blk_lt BXx0.out)))
  clear Ht0_0
  go_wp2_with fail
  go_at_call 13
  refine (laws_markParty.calls k6 (fun k_ => lox0_0 ≤ k_ ∧ k_ < hix0_0) _ l0_0 a0_1 1 m0 yx0_0 wA _ ?s9_hB ?s9_ho0_0 XhM0.out).mono ?_
  (case s9_hB => exact (by repeat (first | (with_reducible exact HB.out) | (with_reducible apply below_alloc) | (with_reducible apply pw_below_drewN) | (with_reducible apply below_drew1))))
  (case s9_ho0_0 => exact (by repeat (first | (with_reducible exact Hx0_0.out) | (with_reducible apply Kd.R_alloc) | (with_reducible apply Kd.R_drewN) | (with_reducible apply Kd.R_drew))))
  rintro e w9 ⟨rfl, hx0_0, hb, hk⟩
  have n0_ := Aside0.mk (Kd.F_kept (by repeat (first | (with_reducible exact Hw0.out) | (with_reducible apply Kd.F_alloc) | (with_reducible apply Kd.F_drewN) | (with_reducible apply Kd.F_drew))) hk (fun k_ h_ p_ => by have qZW1 := ZW1.out; have qZW2 := ZW2.out; have qESw0 := ESw0.out; have qZW3 := ZW3.out; have qZx0_0 := Zx0_0.out; have qZW4 := ZW4.out; have qZg0 := Zg0.out; have qZW5 := ZW5.out; have qZW6 := ZW6.out; have qZW7 := ZW7.out; have qZW8 := ZW8.out; (try dsimp only at h_ p_); omega))
  have n2_ := Aside0.mk (blk_kept (g := w4.heap.size) (o := .cells #[.slice Bx0_0 l0_0.length dx0_0, .int .i64 a0_1] 28) (by repeat (first | (with_reducible exact BXx0.out) | (with_reducible refine blk_drewN ?_ _) | (with_reducible refine blk_drew ?_) | (with_reducible refine blk_alloc ?_ _))) hk (fun p_ => by have qZW1 := ZW1.out; have qZW2 := ZW2.out; have qESw0 := ESw0.out; have qZW3 := ZW3.out; have qZx0_0 := Zx0_0.out; have qZW4 := ZW4.out; have qZg0 := Zg0.out; have qZW5 := ZW5.out; have qZW6 := ZW6.out; have qZW7 := ZW7.out; have qZW8 := ZW8.out; (try dsimp only at p_); omega))
  have n3_ := Aside0.mk (Kd.S_kept (by repeat (first | (with_reducible exact Hg0.out) | (with_reducible apply Kd.S_alloc) | (with_reducible apply Kd.S_drewN) | (with_reducible apply Kd.S_drew))) hk (fun k_ h_ p_ => by have qZW1 := ZW1.out; have qZW2 := ZW2.out; have qESw0 := ESw0.out; have qZW3 := ZW3.out; have qZx0_0 := Zx0_0.out; have qZW4 := ZW4.out; have qZg0 := Zg0.out; have qZW5 := ZW5.out; have qZW6 := ZW6.out; have qZW7 := ZW7.out; have qZW8 := ZW8.out; (try dsimp only at h_ p_); omega))
  have zw_ := hk.1
  (try simp only [World.size_alloc, size_drew_, size_drewN_] at zw_)
  have ZW9 := Aside0.mk zw_
  clear zw_
  have HB_ := Aside0.mk hb
  clear HB
  have HB := HB_
  clear HB_
  clear Hw0
  have Hw0 := n0_
  clear n0_
  clear Hx0_0
  have Hx0_0 := Aside0.mk hx0_0
  clear hx0_0
  clear BXx0
  have BXx0 := n2_
  clear n2_
  clear Hg0
  have Hg0 := n3_
  clear n3_
  clear hb hk
  clear Hx0_0
  clear xa0_0 xa0_1 BXx0c0 BXx0c1 hzA hzBXx0
  have xa0_0 : w9.cell? ⟨w.heap.size, 0, none⟩ = some (.slice A0_0 l0_0.length c0_0) := (blk_cell (blk_below PA0.out HB.out) 0).trans rfl
  have xa0_1 : w9.cell? ⟨w.heap.size, 1, none⟩ = some (.int .i64 a0_1) := (blk_cell (blk_below PA0.out HB.out) 1).trans rfl
  have BXx0c0 : w9.cell? ⟨w4.heap.size, 0, none⟩ = some (.slice Bx0_0 l0_0.length dx0_0) := (blk_cell BXx0.out 0).trans rfl
  have BXx0c1 : w9.cell? ⟨w4.heap.size, 1, none⟩ = some (.int .i64 a0_1) := (blk_cell BXx0.out 1).trans rfl
  have hzA : w.heap.size < w9.heap.size := Nat.lt_of_lt_of_le (blk_lt PA0.out) HB.out.size
  have hzBXx0 : w4.heap.size < w9.heap.size := blk_lt BXx0.out
  go_wp2_with fail
  go_at_call 12
  refine (laws_eqStateS.calls k4 _ _ r0 _ _ r0 true _ ?s10_hr0 ?s10_hc0 ?s10_hr1 ?s10_hc1 XhE.out).mono ?_
  (case s10_hr0 => exact (Kd.S_reads' (by repeat (first | (with_reducible exact Hg0.out) | (with_reducible apply Kd.S_alloc) | (with_reducible apply Kd.S_drewN) | (with_reducible apply Kd.S_drew)))).2.2)
  (case s10_hc0 => exact (Kd.S_reads' Hg0.out).2.1)
  (case s10_hr1 => exact Kd.F_now (by repeat (first | (with_reducible exact Hw0.out) | (with_reducible apply Kd.F_alloc) | (with_reducible apply Kd.F_drewN) | (with_reducible apply Kd.F_drew))))
  (case s10_hc1 => exact LEw0.out)
  rintro e w10 ⟨rfl, hb⟩
  have n0_ := Aside0.mk (Kd.F_below (by repeat (first | (with_reducible exact Hw0.out) | (with_reducible apply Kd.F_alloc) | (with_reducible apply Kd.F_drewN) | (with_reducible apply Kd.F_drew))) hb)
  have n1_ := Aside0.mk (blk_below (g := w4.heap.size) (o := .cells #[.slice Bx0_0 l0_0.length dx0_0, .int .i64 a0_1] 28) (by repeat (first | (with_reducible exact BXx0.out) | (with_reducible refine blk_drewN ?_ _) | (with_reducible refine blk_drew ?_) | (with_reducible refine blk_alloc ?_ _))) hb)
  have n2_ := Aside0.mk (Kd.S_below (by repeat (first | (with_reducible exact Hg0.out) | (with_reducible apply Kd.S_alloc) | (with_reducible apply Kd.S_drewN) | (with_reducible apply Kd.S_drew))) hb)
  have nb_ := Aside0.mk (below_step (by repeat (first | (with_reducible exact HB.out) | (with_reducible apply below_alloc) | (with_reducible apply pw_below_drewN) | (with_reducible apply below_drew1))) hb)
  have zw_ := hb.size
  (try simp only [World.size_alloc, size_drew_, size_drewN_] at zw_)
  have ZW10 := Aside0.mk zw_
  clear zw_
  clear HB Hw0 BXx0 Hg0
  have HB := nb_
  have Hw0 := n0_
  have BXx0 := n1_
  have Hg0 := n2_
  clear nb_ n0_ n1_ n2_
  clear hb
  clear xa0_0 xa0_1 BXx0c0 BXx0c1 hzA hzBXx0
  have xa0_0 : w10.cell? ⟨w.heap.size, 0, none⟩ = some (.slice A0_0 l0_0.length c0_0) := (blk_cell (blk_below PA0.out HB.out) 0).trans rfl
  have xa0_1 : w10.cell? ⟨w.heap.size, 1, none⟩ = some (.int .i64 a0_1) := (blk_cell (blk_below PA0.out HB.out) 1).trans rfl
  have BXx0c0 : w10.cell? ⟨w4.heap.size, 0, none⟩ = some (.slice Bx0_0 l0_0.length dx0_0) := (blk_cell BXx0.out 0).trans rfl
  have BXx0c1 : w10.cell? ⟨w4.heap.size, 1, none⟩ = some (.int .i64 a0_1) := (blk_cell BXx0.out 1).trans rfl
  have hzA : w.heap.size < w10.heap.size := Nat.lt_of_lt_of_le (blk_lt PA0.out) HB.out.size
  have hzBXx0 : w4.heap.size < w10.heap.size := blk_lt BXx0.out
  go_wp2_with fail
  go_at_call 14
  refine (laws_markStateS.calls (fun k_ => log0 ≤ k_ ∧ k_ < hig0) _ r0 1 q1 yg0 wA _ ?s11_hB ?s11_ho0 XhMR.out).mono ?_
  (case s11_hB => exact (by repeat (first | (with_reducible exact HB.out) | (with_reducible apply below_alloc) | (with_reducible apply pw_below_drewN) | (with_reducible apply below_drew1))))
  (case s11_ho0 => exact (by repeat (first | (with_reducible exact Hg0.out) | (with_reducible apply Kd.S_alloc) | (with_reducible apply Kd.S_drewN) | (with_reducible apply Kd.S_drew))))
  rintro e w11 ⟨rfl, hg0, hb, hk⟩
  have n0_ := Aside0.mk (Kd.F_kept (by repeat (first | (with_reducible exact Hw0.out) | (with_reducible apply Kd.F_alloc) | (with_reducible apply Kd.F_drewN) | (with_reducible apply Kd.F_drew))) hk (fun k_ h_ p_ => by have qZW1 := ZW1.out; have qZW2 := ZW2.out; have qESw0 := ESw0.out; have qZW3 := ZW3.out; have qZx0_0 := Zx0_0.out; have qZW4 := ZW4.out; have qZg0 := Zg0.out; have qZW5 := ZW5.out; have qZW6 := ZW6.out; have qZW7 := ZW7.out; have qZW8 := ZW8.out; have qZW9 := ZW9.out; have qZW10 := ZW10.out; (try dsimp only at h_ p_); omega))
  have n1_ := Aside0.mk (blk_kept (g := w4.heap.size) (o := .cells #[.slice Bx0_0 l0_0.length dx0_0, .int .i64 a0_1] 28) (by repeat (first | (with_reducible exact BXx0.out) | (with_reducible refine blk_drewN ?_ _) | (with_reducible refine blk_drew ?_) | (with_reducible refine blk_alloc ?_ _))) hk (fun p_ => by have qZW1 := ZW1.out; have qZW2 := ZW2.out; have qESw0 := ESw0.out; have qZW3 := ZW3.out; have qZx0_0 := Zx0_0.out; have qZW4 := ZW4.out; have qZg0 := Zg0.out; have qZW5 := ZW5.out; have qZW6 := ZW6.out; have qZW7 := ZW7.out; have qZW8 := ZW8.out; have qZW9 := ZW9.out; have qZW10 := ZW10.out; (try dsimp only at p_); omega))
  have zw_ := hk.1
  (try simp only [World.size_alloc, size_drew_, size_drewN_] at zw_)
  have ZW11 := Aside0.mk zw_
  clear zw_
  have HB_ := Aside0.mk hb
  clear HB
  have HB := HB_
  clear HB_
  clear Hw0
  have Hw0 := n0_
  clear n0_
  clear BXx0
  have BXx0 := n1_
  clear n1_
  clear Hg0
  have Hg0 := Aside0.mk hg0
  clear hg0
  clear hb hk
  clear xa0_0 xa0_1 BXx0c0 BXx0c1 hzA hzBXx0
  have xa0_0 : w11.cell? ⟨w.heap.size, 0, none⟩ = some (.slice A0_0 l0_0.length c0_0) := (blk_cell (blk_below PA0.out HB.out) 0).trans rfl
  have xa0_1 : w11.cell? ⟨w.heap.size, 1, none⟩ = some (.int .i64 a0_1) := (blk_cell (blk_below PA0.out HB.out) 1).trans rfl
  have BXx0c0 : w11.cell? ⟨w4.heap.size, 0, none⟩ = some (.slice Bx0_0 l0_0.length dx0_0) := (blk_cell BXx0.out 0).trans rfl
  have BXx0c1 : w11.cell? ⟨w4.heap.size, 1, none⟩ = some (.int .i64 a0_1) := (blk_cell BXx0.out 1).trans rfl
  have hzA : w.heap.size < w11.heap.size := Nat.lt_of_lt_of_le (blk_lt PA0.out) HB.out.size
  have hzBXx0 : w4.heap.size < w11.heap.size := blk_lt BXx0.out
  go_wp2_with fail
  go_at_call 15
  refine (laws_heldStateS_n k7 _ _ yg0 1 q1 _ ?s12_hr0 ?s12_hc0 XhH.out r0.length ?s12_n0).mono ?_
  (case s12_hr0 => exact (Kd.S_reads' (by repeat (first | (with_reducible exact Hg0.out) | (with_reducible apply Kd.S_alloc) | (with_reducible apply Kd.S_drewN) | (with_reducible apply Kd.S_drew)))).2.2)
  (case s12_hc0 => exact Nat.le_trans (Nat.le_of_eq (Kd.S_reads' Hg0.out).1.symm) (Kd.S_reads' Hg0.out).2.1)
  (case s12_n0 => exact (Kd.S_reads' Hg0.out).1)
  rintro e w12 ⟨rfl, hb0⟩
  have hb := Drawn0.below hb0
  clear hb0
  have n0_ := Aside0.mk (Kd.F_below (by repeat (first | (with_reducible exact Hw0.out) | (with_reducible apply Kd.F_alloc) | (with_reducible apply Kd.F_drewN) | (with_reducible apply Kd.F_drew))) hb)
  have n1_ := Aside0.mk (blk_below (g := w4.heap.size) (o := .cells #[.slice Bx0_0 l0_0.length dx0_0, .int .i64 a0_1] 28) (by repeat (first | (with_reducible exact BXx0.out) | (with_reducible refine blk_drewN ?_ _) | (with_reducible refine blk_drew ?_) | (with_reducible refine blk_alloc ?_ _))) hb)
  have n2_ := Aside0.mk (Kd.S_below (by repeat (first | (with_reducible exact Hg0.out) | (with_reducible apply Kd.S_alloc) | (with_reducible apply Kd.S_drewN) | (with_reducible apply Kd.S_drew))) hb)
  have nb_ := Aside0.mk (below_step (by repeat (first | (with_reducible exact HB.out) | (with_reducible apply below_alloc) | (with_reducible apply pw_below_drewN) | (with_reducible apply below_drew1))) hb)
  have zw_ := hb.size
  (try simp only [World.size_alloc, size_drew_, size_drewN_] at zw_)
  have ZW12 := Aside0.mk zw_
  clear zw_
  clear HB Hw0 BXx0 Hg0
  have HB := nb_
  have Hw0 := n0_
  have BXx0 := n1_
  have Hg0 := n2_
  clear nb_ n0_ n1_ n2_
  clear hb
  clear xa0_0 xa0_1 BXx0c0 BXx0c1 hzA hzBXx0
  have xa0_0 : w12.cell? ⟨w.heap.size, 0, none⟩ = some (.slice A0_0 l0_0.length c0_0) := (blk_cell (blk_below PA0.out HB.out) 0).trans rfl
  have xa0_1 : w12.cell? ⟨w.heap.size, 1, none⟩ = some (.int .i64 a0_1) := (blk_cell (blk_below PA0.out HB.out) 1).trans rfl
  have BXx0c0 : w12.cell? ⟨w4.heap.size, 0, none⟩ = some (.slice Bx0_0 l0_0.length dx0_0) := (blk_cell BXx0.out 0).trans rfl
  have BXx0c1 : w12.cell? ⟨w4.heap.size, 1, none⟩ = some (.int .i64 a0_1) := (blk_cell BXx0.out 1).trans rfl
  have hzA : w.heap.size < w12.heap.size := Nat.lt_of_lt_of_le (blk_lt PA0.out) HB.out.size
  have hzBXx0 : w4.heap.size < w12.heap.size := blk_lt BXx0.out
  clear BXx0
  clear xa0_0 xa0_1 BXx0c0 BXx0c1 hzA hzBXx0
  have n_ := Aside0.mk (show Kd.S k54 54 w12 wA.heap.size (fun _ => True) (.slice Bg0 r0.length dg0) yg0 from Kd.S_mono Hg0.out (fun _ _ => trivial))
  clear Hg0
  have Hg0 := n_
  clear n_
  clear ZW1 ZW2 ESw0 ZW3 Zx0_0 ZW4 Zg0 ZW5 ZW6 ZW7 ZW8 ZW9 ZW10 ZW11 ZW12
  clear XhU0 XhS XhEA0 XhM0 XhMR dnU0 dnM
  have xa0_0 : w12.cell? ⟨w.heap.size, 0, none⟩ = some (.slice A0_0 l0_0.length c0_0) := (blk_cell (blk_below PA0.out HB.out) 0).trans rfl
  have xa0_1 : w12.cell? ⟨w.heap.size, 1, none⟩ = some (.int .i64 a0_1) := (blk_cell (blk_below PA0.out HB.out) 1).trans rfl
  have hzA : w.heap.size < w12.heap.size := Nat.lt_of_lt_of_le (blk_lt PA0.out) HB.out.size
  go_wp2_with fail
  go_at_call 7
  refine (laws_toParty.calls k1 _ _ l0_0 a0_1 l0_0 a0_1 _ ?s13_hr0_0 ?s13_hc0_0 XhT0.out).mono ?_
  (case s13_hr0_0 => exact Kd.C_below RA0_0.out (by repeat (first | (with_reducible exact HB.out) | (with_reducible apply below_alloc) | (with_reducible apply pw_below_drewN) | (with_reducible apply below_drew1))))
  (case s13_hc0_0 => exact hc0_0)
  rintro e w13 ⟨vt0_0, rfl, ht0_0, hb⟩
  obtain ⟨Bt0_0, dt0_0, et0_0⟩ := Kd.R_slice ht0_0
  subst et0_0
  have n0_ := Aside0.mk (Kd.F_below (by repeat (first | (with_reducible exact Hw0.out) | (with_reducible apply Kd.F_alloc) | (with_reducible apply Kd.F_drewN) | (with_reducible apply Kd.F_drew))) hb)
  have n1_ := Aside0.mk (Kd.S_below (by repeat (first | (with_reducible exact Hg0.out) | (with_reducible apply Kd.S_alloc) | (with_reducible apply Kd.S_drewN) | (with_reducible apply Kd.S_drew))) hb)
  have nb_ := Aside0.mk (below_step (by repeat (first | (with_reducible exact HB.out) | (with_reducible apply below_alloc) | (with_reducible apply pw_below_drewN) | (with_reducible apply below_drew1))) hb)
  have zw_ := hb.size
  (try simp only [World.size_alloc, size_drew_, size_drewN_] at zw_)
  have ZW13 := Aside0.mk zw_
  clear zw_
  clear HB Hw0 Hg0
  have HB := nb_
  have Hw0 := n0_
  have Hg0 := n1_
  clear nb_ n0_ n1_
  have Ht0_0 := Aside0.mk ht0_0
  clear ht0_0
  clear hb
  clear xa0_0 xa0_1 hzA
  have xa0_0 : w13.cell? ⟨w.heap.size, 0, none⟩ = some (.slice A0_0 l0_0.length c0_0) := (blk_cell (blk_below PA0.out HB.out) 0).trans rfl
  have xa0_1 : w13.cell? ⟨w.heap.size, 1, none⟩ = some (.int .i64 a0_1) := (blk_cell (blk_below PA0.out HB.out) 1).trans rfl
  have hzA : w.heap.size < w13.heap.size := Nat.lt_of_lt_of_le (blk_lt PA0.out) HB.out.size
  go_wp2_with fail
  go_at_call 11
  refine (impl_FarthestStates.calls k3 _ _ l0_0 a0_1 r0 r1 r2 _ ?s14_hr0_0 ?s14_hc0_0 XhI.out).mono ?_
  (case s14_hr0_0 => exact (Kd.R_reads' (by repeat (first | (with_reducible exact Ht0_0.out) | (with_reducible apply Kd.R_alloc) | (with_reducible apply Kd.R_drewN) | (with_reducible apply Kd.R_drew)))).2.2)
  (case s14_hc0_0 => exact (Kd.R_reads' Ht0_0.out).2.1)
  rintro e w14 ⟨vh0, rfl, hh0, hb⟩
  obtain ⟨Bh0, dh0, sh0, eh0, es_, LE_, hx_⟩ := S_foot hh0
  subst eh0
  clear hh0
  have LEh0 := Aside0.mk LE_
  have ESh0 := Aside0.mk es_
  have hh0 := hx_
  clear hx_ LE_ es_
  have n0_ := Aside0.mk (Kd.F_below (by repeat (first | (with_reducible exact Hw0.out) | (with_reducible apply Kd.F_alloc) | (with_reducible apply Kd.F_drewN) | (with_reducible apply Kd.F_drew))) hb)
  have n1_ := Aside0.mk (Kd.S_below (by repeat (first | (with_reducible exact Hg0.out) | (with_reducible apply Kd.S_alloc) | (with_reducible apply Kd.S_drewN) | (with_reducible apply Kd.S_drew))) hb)
  have n2_ := Aside0.mk (Kd.R_below (by repeat (first | (with_reducible exact Ht0_0.out) | (with_reducible apply Kd.R_alloc) | (with_reducible apply Kd.R_drewN) | (with_reducible apply Kd.R_drew))) hb)
  have nb_ := Aside0.mk (below_step (by repeat (first | (with_reducible exact HB.out) | (with_reducible apply below_alloc) | (with_reducible apply pw_below_drewN) | (with_reducible apply below_drew1))) hb)
  have zw_ := hb.size
  (try simp only [World.size_alloc, size_drew_, size_drewN_] at zw_)
  have ZW14 := Aside0.mk zw_
  clear zw_
  clear HB Hw0 Hg0 Ht0_0
  have HB := nb_
  have Hw0 := n0_
  have Hg0 := n1_
  have Ht0_0 := n2_
  clear nb_ n0_ n1_ n2_
  have Hh0 := Aside0.mk hh0
  clear hh0
  clear hb
  clear xa0_0 xa0_1 hzA
  have xa0_0 : w14.cell? ⟨w.heap.size, 0, none⟩ = some (.slice A0_0 l0_0.length c0_0) := (blk_cell (blk_below PA0.out HB.out) 0).trans rfl
  have xa0_1 : w14.cell? ⟨w.heap.size, 1, none⟩ = some (.int .i64 a0_1) := (blk_cell (blk_below PA0.out HB.out) 1).trans rfl
  have hzA : w.heap.size < w14.heap.size := Nat.lt_of_lt_of_le (blk_lt PA0.out) HB.out.size
  clear Ht0_0
  go_wp2_with fail
  go_at_call 12
  refine (laws_eqStateS.calls k4 _ _ r0 _ _ r0 true _ ?s15_hr0 ?s15_hc0 ?s15_hr1 ?s15_hc1 XhE.out).mono ?_
  (case s15_hr0 => exact Kd.F_now (by repeat (first | (with_reducible exact Hh0.out) | (with_reducible apply Kd.F_alloc) | (with_reducible apply Kd.F_drewN) | (with_reducible apply Kd.F_drew))))
  (case s15_hc0 => exact LEh0.out)
  (case s15_hr1 => exact Kd.F_now (by repeat (first | (with_reducible exact Hw0.out) | (with_reducible apply Kd.F_alloc) | (with_reducible apply Kd.F_drewN) | (with_reducible apply Kd.F_drew))))
  (case s15_hc1 => exact LEw0.out)
  rintro e w15 ⟨rfl, hb⟩
  have n0_ := Aside0.mk (Kd.F_below (by repeat (first | (with_reducible exact Hw0.out) | (with_reducible apply Kd.F_alloc) | (with_reducible apply Kd.F_drewN) | (with_reducible apply Kd.F_drew))) hb)
  have n1_ := Aside0.mk (Kd.S_below (by repeat (first | (with_reducible exact Hg0.out) | (with_reducible apply Kd.S_alloc) | (with_reducible apply Kd.S_drewN) | (with_reducible apply Kd.S_drew))) hb)
  have n2_ := Aside0.mk (Kd.F_below (by repeat (first | (with_reducible exact Hh0.out) | (with_reducible apply Kd.F_alloc) | (with_reducible apply Kd.F_drewN) | (with_reducible apply Kd.F_drew))) hb)
  have nb_ := Aside0.mk (below_step (by repeat (first | (with_reducible exact HB.out) | (with_reducible apply below_alloc) | (with_reducible apply pw_below_drewN) | (with_reducible apply below_drew1))) hb)
  have zw_ := hb.size
  (try simp only [World.size_alloc, size_drew_, size_drewN_] at zw_)
  have ZW15 := Aside0.mk zw_
  clear zw_
  clear HB Hw0 Hg0 Hh0
  have HB := nb_
  have Hw0 := n0_
  have Hg0 := n1_
  have Hh0 := n2_
  clear nb_ n0_ n1_ n2_
  clear hb
  clear xa0_0 xa0_1 hzA
  have xa0_0 : w15.cell? ⟨w.heap.size, 0, none⟩ = some (.slice A0_0 l0_0.length c0_0) := (blk_cell (blk_below PA0.out HB.out) 0).trans rfl
  have xa0_1 : w15.cell? ⟨w.heap.size, 1, none⟩ = some (.int .i64 a0_1) := (blk_cell (blk_below PA0.out HB.out) 1).trans rfl
  have hzA : w.heap.size < w15.heap.size := Nat.lt_of_lt_of_le (blk_lt PA0.out) HB.out.size
  go_wp2_with fail
  go_at_call 15
  refine (laws_heldStateS_n k7 _ _ yg0 1 q1 _ ?s16_hr0 ?s16_hc0 XhH.out r0.length ?s16_n0).mono ?_
  (case s16_hr0 => exact (Kd.S_reads' (by repeat (first | (with_reducible exact Hg0.out) | (with_reducible apply Kd.S_alloc) | (with_reducible apply Kd.S_drewN) | (with_reducible apply Kd.S_drew)))).2.2)
  (case s16_hc0 => exact Nat.le_trans (Nat.le_of_eq (Kd.S_reads' Hg0.out).1.symm) (Kd.S_reads' Hg0.out).2.1)
  (case s16_n0 => exact (Kd.S_reads' Hg0.out).1)
  rintro e w16 ⟨rfl, hb0⟩
  have hb := Drawn0.below hb0
  clear hb0
  have n0_ := Aside0.mk (Kd.F_below (by repeat (first | (with_reducible exact Hw0.out) | (with_reducible apply Kd.F_alloc) | (with_reducible apply Kd.F_drewN) | (with_reducible apply Kd.F_drew))) hb)
  have n1_ := Aside0.mk (Kd.S_below (by repeat (first | (with_reducible exact Hg0.out) | (with_reducible apply Kd.S_alloc) | (with_reducible apply Kd.S_drewN) | (with_reducible apply Kd.S_drew))) hb)
  have n2_ := Aside0.mk (Kd.F_below (by repeat (first | (with_reducible exact Hh0.out) | (with_reducible apply Kd.F_alloc) | (with_reducible apply Kd.F_drewN) | (with_reducible apply Kd.F_drew))) hb)
  have nb_ := Aside0.mk (below_step (by repeat (first | (with_reducible exact HB.out) | (with_reducible apply below_alloc) | (with_reducible apply pw_below_drewN) | (with_reducible apply below_drew1))) hb)
  have zw_ := hb.size
  (try simp only [World.size_alloc, size_drew_, size_drewN_] at zw_)
  have ZW16 := Aside0.mk zw_
  clear zw_
  clear HB Hw0 Hg0 Hh0
  have HB := nb_
  have Hw0 := n0_
  have Hg0 := n1_
  have Hh0 := n2_
  clear nb_ n0_ n1_ n2_
  clear hb
  clear xa0_0 xa0_1 hzA
  have xa0_0 : w16.cell? ⟨w.heap.size, 0, none⟩ = some (.slice A0_0 l0_0.length c0_0) := (blk_cell (blk_below PA0.out HB.out) 0).trans rfl
  have xa0_1 : w16.cell? ⟨w.heap.size, 1, none⟩ = some (.int .i64 a0_1) := (blk_cell (blk_below PA0.out HB.out) 1).trans rfl
  have hzA : w.heap.size < w16.heap.size := Nat.lt_of_lt_of_le (blk_lt PA0.out) HB.out.size
  go_wp2
  go_ret
  exact ⟨rfl, HA.out.trans (HB.out.mono HA.out.size)⟩
set_option maxHeartbeats 2000000 in
set_option maxRecDepth 100000 in
theorem FnExactFarthestStates_short0 (A0_0 : Option Addr) (c0_0 : Nat) (l0_0 : List Int) (a0_1 : Int) (w : World) (hr0_0 : Kd.C (Kd.int .i64) w A0_0 l0_0.length l0_0) (hc0_0 : l0_0.length ≤ c0_0)  (u0 : Int) (hU0 : laws_szParty.f l0_0 a0_1 1048576 = some u0) (oU0 : u0 < 0) :
    Calls Try.prog 4 #[.agg #[.slice A0_0 l0_0.length c0_0, .int .i64 a0_1]] w fun e w' => e = .returned (.bool true) ∧ Below w.heap.size w w' := by
  have hu24_ := Try.underlying24
  have W0_0 := Aside0.mk hr0_0
  clear hr0_0
  have XhU0 := Aside0.mk hU0
  clear hU0
  have doU0 := decide_eq_true oU0
  clear oU0
  go_enter Try.func4, Try.ntmps4
  go_wp2_with fail
  have NB := Aside0.mk (lay1 w (.cells #[.slice A0_0 l0_0.length c0_0, .int .i64 a0_1] 24))
  generalize (w.alloc (.cells #[.slice A0_0 l0_0.length c0_0, .int .i64 a0_1] 24)) = wA at *
  have PA0 := Aside0.mk NB.out.1
  have HA := Aside0.mk NB.out.2
  clear NB
  have RA0_0 := Aside0.mk (Kd.C_below W0_0.out HA.out)
  clear W0_0
  have HB := Aside0.mk (Below.refl wA.heap.size wA)
  go_wp2_with fail
  go_at_call 5
  refine (laws_szParty.calls _ _ l0_0 a0_1 1048576 u0 _ ?s901_hr0_0 ?s901_hc0_0 XhU0.out).mono ?_
  (case s901_hr0_0 => exact Kd.C_below RA0_0.out (by repeat (first | (with_reducible exact HB.out) | (with_reducible apply below_alloc) | (with_reducible apply pw_below_drewN) | (with_reducible apply below_drew1))))
  (case s901_hc0_0 => exact hc0_0)
  rintro e w1 ⟨rfl, hb⟩
  have nb_ := Aside0.mk (below_step (by repeat (first | (with_reducible exact HB.out) | (with_reducible apply below_alloc) | (with_reducible apply pw_below_drewN) | (with_reducible apply below_drew1))) hb)
  have zw_ := hb.size
  (try simp only [World.size_alloc, size_drew_, size_drewN_] at zw_)
  have ZW1 := Aside0.mk zw_
  clear zw_
  clear HB
  have HB := nb_
  clear nb_
  clear hb
  have xa0_0 : w1.cell? ⟨w.heap.size, 0, none⟩ = some (.slice A0_0 l0_0.length c0_0) := (blk_cell (blk_below PA0.out HB.out) 0).trans rfl
  have xa0_1 : w1.cell? ⟨w.heap.size, 1, none⟩ = some (.int .i64 a0_1) := (blk_cell (blk_below PA0.out HB.out) 1).trans rfl
  have hzA : w.heap.size < w1.heap.size := Nat.lt_of_lt_of_le (blk_lt PA0.out) HB.out.size
  go_wp2
  go_ret
  exact ⟨rfl, HA.out.trans (HB.out.mono HA.out.size)⟩
end Go.Proofs.Ytihieplobgehaaa.Walk
