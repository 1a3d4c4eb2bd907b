import Derived.Test.YtamljjfhkolflaaC7zx0
import Derived.Test.YtamljjfhkolflaaC7zx6
import Derived.Test.YtamljjfhkolflaaC7zx7
import Derived.Test.YtamljjfhkolflaaC7zx8
import Derived.Test.YtamljjfhkolflaaC7zx9
import Derived.Test.YtamljjfhkolflaaC7zAl
namespace Go.Proofs.Ytamljjfhkolflaa.C7
open Go.RowKit Go.Proofs.YtamljjfhkolflaaW.PrintWords Go.Proofs.YtamljjfhkolflaaW.PrintLast Go.Proofs.YtamljjfhkolflaaW.PrintMore Go.Proofs.Ytamljjfhkolflaa.H
attribute [local go_sem] max2_int min2_int max_two min_two max_three min_three max_four min_four
set_option linter.unusedVariables false
set_option linter.unusedSimpArgs false
def EOutInv (B bo : Nat) (s : List Edg) (W : World) (O : Nat → Prop) : Prop :=
 ∃ v, W.heap[bo]? = some (.cells #[v] 89 (0, 0)) ∧ B ≤ bo ∧ Kd.S EdgK 92 W B (fun k => k ≠ bo) v s ∧ O = (fun k => k = bo ∨ some k = v.ownBlock)
theorem EOutInv.lt {B bo : Nat} (s : List Edg) (W : World) (O : Nat → Prop) (h : EOutInv B bo s W O) : ∀ k, O k → B ≤ k ∧ k < W.heap.size := by
 obtain ⟨v, hb, hB, hS, rfl⟩ := h
 rintro k (rfl | hk)
 ·
  exact ⟨hB, blk_lt hb⟩
 ·
  exact ⟨Kd.S_base hS k hk.symm, Kd.S_lt hS k hk.symm⟩
theorem EOutInv.below {B bo : Nat} {s : List Edg} {W W1 : World} {O : Nat → Prop} (h : EOutInv B bo s W O) (hb : Below W.heap.size W W1) : EOutInv B bo s W1 O := by
 obtain ⟨v, h1, h2, h3, h4⟩ := h
 exact ⟨v, blk_below h1 hb, h2, Kd.S_below h3 hb, h4⟩
structure PtyFr (pt pp ps : Nat) (timed : Bool) (A0 : Option Addr) (c0 : Nat) (l0 : List Int) (m : Int) (A1 : Option Addr) (c1 : Nat) (ov : List Bool) (tr : Bool) (W : World) (O : Nat → Prop) : Prop where
 bt : W.heap[pt]? = some (.cells #[.bool timed] 4 (0, 0))
 bp : W.heap[pp]? = some (.cells #[.slice A0 l0.length c0, .int .i64 m] 28 (0, 0))
 bs : W.heap[ps]? = some (.cells #[.slice A1 ov.length c1, .bool tr] 44 (0, 0))
 nt : ¬ O pt
 np : ¬ O pp
 ns : ¬ O ps
 f0 : Kd.F (Kd.int .i64) W (fun k => ¬ O k) A0 l0.length l0
 f1 : Kd.F Kd.bool W (fun k => ¬ O k) A1 ov.length ov
 h0 : l0.length ≤ c0
 h1 : ov.length ≤ c1
section
variable {pt pp ps : Nat} {timed : Bool} {A0 : Option Addr} {c0 : Nat} {l0 : List Int} {m : Int} {A1 : Option Addr} {c1 : Nat} {ov : List Bool} {tr : Bool}
theorem PtyFr.turn {w W : World} {O O' : Nat → Prop} (h : PtyFr pt pp ps timed A0 c0 l0 m A1 c1 ov tr w O) (hk : Kept w W O) (ho : ∀ k, O' k → O k ∨ w.heap.size ≤ k) : PtyFr pt pp ps timed A0 c0 l0 m A1 c1 ov tr W O' := by
 have lt : ∀ {p : Nat} {o : Obj}, w.heap[p]? = some o → ¬ O p → ¬ O' p := fun hp hn h => by
  rcases ho _ h with q | q
  ·
   exact hn q
  ·
   have := blk_lt hp; omega
 exact ⟨blk_kept h.bt hk h.nt, blk_kept h.bp hk h.np, blk_kept h.bs hk h.ns, lt h.bt h.nt, lt h.bp h.np, lt h.bs h.ns,
  Kd.F_mono (Kd.F_kept (Kd.F_bound h.f0) hk (fun _ q => q.1)) (fun k q q2 => by rcases ho k q2 with q3 | q3; exact q.1 q3; omega),
  Kd.F_mono (Kd.F_kept (Kd.F_bound h.f1) hk (fun _ q => q.1)) (fun k q q2 => by rcases ho k q2 with q3 | q3; exact q.1 q3; omega), h.h0, h.h1⟩
end
def ptyInv (B bo pt pp ps : Nat) (timed : Bool) (A0 : Option Addr) (c0 : Nat) (l0 : List Int) (m : Int) (A1 : Option Addr) (c1 : Nat) (ov : List Bool) (tr : Bool) (s : List Edg) (W : World) (O : Nat → Prop) : Prop := EOutInv B bo s W O ∧ PtyFr pt pp ps timed A0 c0 l0 m A1 c1 ov tr W O
def ptyCost (k : Nat) (timed : Bool) (l0 l : List Int) : Option Int := if timed = true then impl_slowest.f k l0 l else some 1
def ptyStep (k : Nat) (timed : Bool) (l0 : List Int) (ov : List Bool) (tr : Bool) (s : List Edg) (l : List Int) : Option (List Edg) :=
 (ptyCost k timed l0 l).bind fun c => (impl_State_moved.f k ov tr l).bind fun mm => (impl_State_code.f k mm.1 mm.2).bind fun cd => if s.length < 1099511627776 then some (s ++ [(cd, c, l)]) else none
theorem M_edge {W : World} {B : Nat} {okp : Nat → Prop} {x c : Int} {v : Value} {l : List Int} (h : (Kd.int .i64).R 3 W B okp v l) : EdgK.M W B okp (x, c, l) [.int .i64 x, .int .i64 c, v] := ⟨[.int .i64 x], _, rfl, rfl, [.int .i64 c], _, rfl, rfl, v, rfl, h⟩
set_option maxHeartbeats 4000000 in
set_option maxRecDepth 100000 in
theorem party1_each (k : Nat) (B bo pt pp ps : Nat) (timed : Bool) (A0 : Option Addr) (c0 : Nat) (l0 : List Int) (m : Int) (A1 : Option Addr) (c1 : Nat) (ov : List Bool) (tr : Bool) : EachOk B 108 #[.pointer (some ⟨pt, 0, none⟩), .pointer (some ⟨pp, 0, none⟩), .pointer (some ⟨bo, 0, none⟩), .pointer (some ⟨ps, 0, none⟩)] (ptyInv B bo pt pp ps timed A0 c0 l0 m A1 c1 ov tr) (ptyStep k timed l0 ov tr) := by
 intro s s' O W0 W vl l hinv hbel hR hs; obtain ⟨hout, hfr⟩ := hinv
 have hfr := hfr.turn (O' := O) (Kept.of_below hbel O) (fun _ h => .inl h)
 obtain ⟨Al, cl, rfl, hlc, hC⟩ := Kd.R_reads hR
 unfold ptyStep at hs
 obtain ⟨c, hcost, hs⟩ := Option.bind_eq_some_iff.mp hs
 obtain ⟨⟨mo, mt⟩, hmv, hs⟩ := Option.bind_eq_some_iff.mp hs
 obtain ⟨cd, hcd, hs⟩ := Option.bind_eq_some_iff.mp hs
 dsimp only at hmv hcd
 have hu0 := Try.underlying28
 have hu1 := Try.underlying44
 have hue := Try.underlying92
 have hinfoE := am' (show (Try.prog.info? 92).map (fun i => (i.zero, i.size, i.bytes)) = some (some (.agg #[.int .i64 0, .int .i64 0, .slice none 0 0]), 3, 40) by kernel_rfl)
 obtain ⟨v, hbo, hB, hS, rfl⟩ := hout
 obtain ⟨hlim, rfl⟩ : s.length < 1099511627776 ∧ s ++ [(cd, c, l)] = s' := by
  by_cases h : s.length < 1099511627776
  ·
   rw [if_pos h] at hs; exact ⟨h, Option.some.inj hs⟩
  ·
   rw [if_neg h] at hs; cases hs
 have HM := am' (fun (W1 : World) (hb : Below W.heap.size W W1) => impl_State_moved.calls k A1 c1 ov tr Al cl l mo mt W1 (Kd.C_below (Kd.F_now hfr.f1) hb) hfr.h1 (Kd.C_below hC hb) hlc hmv)
 have HC := am' (fun (W1 : World) (A2 : Option Addr) (c2 : Nat) (hc : Kd.C Kd.bool W1 A2 mo.length mo) (hl : mo.length ≤ c2) => impl_State_code.calls k A2 c2 mo mt cd W1 hc hl hcd)
 have HSL := am' (fun (ht : timed = true) => impl_slowest.calls k A0 c0 l0 Al cl l c W (Kd.F_now hfr.f0) hfr.h0 hC hlc (by unfold ptyCost at hcost; rwa [if_pos ht] at hcost))
 have HC1 := am' (fun (ht : timed = false) => show (1 : Int) = c by unfold ptyCost at hcost; rw [if_neg (by rw [ht]; decide)] at hcost; exact Option.some.inj hcost)
 have HFR := am' hfr
 have HLIM := am' hlim
 have HBO := am' (blk_below hbo hbel)
 have HBE := am' hB
 have HS := am' (Kd.S_mono (Kd.S_old hS hbel) (ok' := fun k => k ≠ bo ∧ k < W0.heap.size) (fun k hk => hk))
 have HR2 := am' (Kd.R_mono (Kd.R_bound hR) (ok' := fun k => W0.heap.size ≤ k ∧ k < W.heap.size ∧ k ≠ bo) (fun k hk => ⟨hk.2.1, hk.2.2.1, by have := blk_lt hbo; have := hk.2.1; omega⟩))
 have HBW := am' (Nat.le_trans (Nat.le_of_lt (Nat.lt_of_le_of_lt hB (blk_lt hbo))) hbel.size)
 have HB0 := am' (Nat.le_of_lt (Nat.lt_of_le_of_lt hB (blk_lt hbo)))
 have HSZ := am' hbel.size
 have HR := am' hR
 have HBEL := am' hbel
 have HSL0 := am' (Kd.S_lt hS)
 have HLO := am' (blk_lt hbo)
 obtain ⟨Ao, co, rfl⟩ := Kd.S_slice hS
 have x0 : W.cell? ⟨bo, 0, none⟩ = some (.slice Ao s.length co) := (blk_cell HBO.out 0).trans rfl
 have xt : W.cell? ⟨pt, 0, none⟩ = some (.bool timed) := (blk_cell hfr.bt 0).trans rfl
 have xp : W.cell? ⟨pp, 0, none⟩ = some (.slice A0 l0.length c0) := (blk_cell hfr.bp 0).trans rfl
 have s0 : W.cell? ⟨ps, 0, none⟩ = some (.slice A1 ov.length c1) := (blk_cell hfr.bs 0).trans rfl
 have s1 : W.cell? ⟨ps, 1, none⟩ = some (.bool tr) := (blk_cell hfr.bs 1).trans rfl
 clear hfr hC hlc hcost hmv hcd hs hlim hbo hB hS hR hbel; cases timed with
 | false =>
  obtain rfl := HC1.out rfl
  have HW := am' (Below.refl W.heap.size W)
  go_enter Try.func108, Try.ntmps108
  go_wp2_with fail
  refine start_ (n := 11) (S := fun w' => w'.cell? ⟨ps, 0, none⟩ = some (.slice A1 ov.length c1) ∧ w'.cell? ⟨ps, 1, none⟩ = some (.bool tr) ∧ w'.cell? ⟨bo, 0, none⟩ = some (.slice Ao s.length co)) (ds := [10]) #[false, false, false, false, false, false, false, false, false, false, false] (by kernel_rfl) rfl rfl ⟨s0, s1, x0⟩ (fun hHeld => ?_)
  refine take_ (i := 0) (N := some 12) (v := ?_) (a' := ?_) #[true, false, false, false, false, false, false, false, false, false, false] rfl rfl (by kernel_rfl) (fun _ _ _ h => h) (Or.inl ⟨by rfl, ?_⟩) hHeld ?_ ?_
  rotate_left
  ·
   rintro w' ⟨s0_, s1_, s2_⟩
   go_simp; with_reducible rfl
  rotate_left
  ·
   simp only [Act.put, sa', sb', sc', i64_w, i32_w]
   rfl
  refine take_ (i := 1) (N := some 13) (v := ?_) (a' := ?_) #[true, true, false, false, false, false, false, false, false, false, false] rfl rfl (by kernel_rfl) (fun _ _ _ h => h) (Or.inl ⟨by rfl, ?_⟩) hHeld ?_ ?_
  rotate_left
  ·
   rintro w' ⟨s0_, s1_, s2_⟩
   go_simp; with_reducible rfl
  rotate_left
  ·
   simp only [Act.put, sa', sb', sc', i64_w, i32_w]
   rfl
  refine pure_ (i := 2) (N := some 14) (v := ?_) (a' := ?_) #[true, true, true, false, false, false, false, false, false, false, false] rfl rfl (by kernel_rfl) (fun _ _ _ h => h) (Or.inl ⟨by rfl, ?_⟩) ?_ ?_
  rotate_left
  ·
   intro w'; go_simp; with_reducible rfl
  rotate_left
  ·
   simp only [Act.put, sa', sb', sc', i64_w, i32_w]
   rfl
  refine pure_ (i := 5) (N := some 17) (v := ?_) (a' := ?_) #[true, true, true, false, false, true, false, false, false, false, false] rfl rfl (by kernel_rfl) (fun _ _ _ h => h) (Or.inl ⟨by rfl, ?_⟩) ?_ ?_
  rotate_left
  ·
   intro w'; go_simp; with_reducible rfl
  rotate_left
  ·
   simp only [Act.put, sa', sb', sc', i64_w, i32_w]
   rfl
  refine pure_ (i := 6) (N := some 18) (v := ?_) (a' := ?_) #[true, true, true, false, false, true, true, false, false, false, false] rfl rfl (by kernel_rfl) (fun _ _ _ h => h) (Or.inl ⟨by rfl, ?_⟩) ?_ ?_
  rotate_left
  ·
   intro w'; go_simp; with_reducible rfl
  rotate_left
  ·
   simp only [Act.put, sa', sb', sc', i64_w, i32_w]
   rfl
  refine one_ (i := 3) (N := some 15) #[true, true, true, true, false, true, true, false, false, false, false] rfl rfl (by kernel_rfl) (by decide) (fun K hK => ?_)
  refine goes_ Try.func110 (by kernel_rfl) rfl #[.agg #[.slice A1 ov.length c1, .bool tr], .slice Al l.length cl] (by rfl) rfl rfl (by (try simp only [List.map_toArray, List.map_cons, List.map_nil]); first | done | rfl) ?_
  refine (HM.out _ ?sideM).mono ?_
  (case sideM => (repeat (first | (with_reducible exact HW.out) | apply be' | apply bd')))
  rintro e w4 ⟨v4, rfl, ho4, hb4⟩
  obtain ⟨A4, c4, rfl, hc4, hC4⟩ := Kd.R_reads ho4
  have HW4 := am' (below_step (by repeat (first | (with_reducible exact HW.out) | apply ba' | apply be' | apply bd')) hb4)
  have HC4 := am' hC4
  have HL4 := am' hc4
  have HO4 := am' (Below.refl w4.heap.size w4)
  have y40 : w4.cell? ⟨ps, 0, none⟩ = some (.slice A1 ov.length c1) := (blk_cell (blk_below HFR.out.bs HW4.out) 0).trans rfl
  have y41 : w4.cell? ⟨ps, 1, none⟩ = some (.bool tr) := (blk_cell (blk_below HFR.out.bs HW4.out) 1).trans rfl
  have y42 : w4.cell? ⟨bo, 0, none⟩ = some (.slice Ao s.length co) := (blk_cell (blk_below HBO.out HW4.out) 0).trans rfl
  clear ho4 hb4 hC4 hc4; refine ⟨_, rfl, ?_⟩
  refine hK.out _ _ ⟨y40, y41, y42⟩ (fun hHeld => ?_)
  clear hK K; refine norm_ (a' := ?_) ?_ ?_
  rotate_left
  ·
   show Act.put _ (some 15) _ = _
   simp only [Act.put, sa', sb', sc', i64_w, i32_w]
   rfl
  refine one_ (i := 4) (N := some 16) #[true, true, true, true, true, true, true, false, false, false, false] rfl rfl (by kernel_rfl) (by decide) (fun K hK => ?_)
  refine goes_ Try.func92 (by kernel_rfl) rfl #[.agg #[.slice A4 mo.length c4, .bool mt]] (by rfl) rfl rfl (by (try simp only [List.map_toArray, List.map_cons, List.map_nil]); first | done | rfl) ?_
  refine (HC.out _ A4 c4 ?sideC HL4.out).mono ?_
  (case sideC => (exact Kd.C_below HC4.out (by repeat (first | (with_reducible exact HO4.out) | apply ba' | apply be' | apply bd'))))
  rintro e w5 ⟨rfl, hb5⟩
  have HW5 := am' (below_step (by repeat (first | (with_reducible exact HW4.out) | apply ba' | apply be' | apply bd')) hb5)
  have y50 : w5.cell? ⟨ps, 0, none⟩ = some (.slice A1 ov.length c1) := (blk_cell (blk_below HFR.out.bs HW5.out) 0).trans rfl
  have y51 : w5.cell? ⟨ps, 1, none⟩ = some (.bool tr) := (blk_cell (blk_below HFR.out.bs HW5.out) 1).trans rfl
  have y52 : w5.cell? ⟨bo, 0, none⟩ = some (.slice Ao s.length co) := (blk_cell (blk_below HBO.out HW5.out) 0).trans rfl
  have y53 : (w5.alloc (.cells #[.int .i64 cd, .int .i64 1, .slice Al l.length cl] 92)).cell? ⟨bo, 0, none⟩ = some (.slice Ao s.length co) := (blk_cell (ka' (blk_below HBO.out HW5.out) _) 0).trans rfl
  have HO5 := am' (Below.refl w5.heap.size w5)
  clear hb5; have y54 : (w5.alloc (.cells #[.int .i64 cd, .int .i64 1, .slice Al l.length cl] 92)).cell? ⟨ps, 0, none⟩ = some (.slice A1 ov.length c1) := (blk_cell (ka' (blk_below HFR.out.bs HW5.out) _) 0).trans rfl
  have y55 : (w5.alloc (.cells #[.int .i64 cd, .int .i64 1, .slice Al l.length cl] 92)).cell? ⟨ps, 1, none⟩ = some (.bool tr) := (blk_cell (ka' (blk_below HFR.out.bs HW5.out) _) 1).trans rfl
  refine ⟨_, rfl, ?_⟩
  refine hK.out _ _ ⟨y50, y51, y52⟩ (fun hHeld => ?_)
  clear hK K; refine norm_ (a' := ?_) ?_ ?_
  rotate_left
  ·
   show Act.put _ (some 16) _ = _
   simp only [Act.put, sa', sb', sc', i64_w, i32_w]
   rfl
  refine pure_ (i := 7) (N := some 19) (v := ?_) (a' := ?_) #[true, true, true, true, true, true, true, true, false, false, false] rfl rfl (by kernel_rfl) (fun _ _ _ h => h) (Or.inl ⟨by rfl, ?_⟩) ?_ ?_
  rotate_left
  ·
   intro w'; go_simp; with_reducible rfl
  rotate_left
  ·
   simp only [Act.put, sa', sb', sc', i64_w, i32_w]
   rfl
  refine one_ (i := 8) (N := some 20) #[true, true, true, true, true, true, true, true, true, false, false] rfl rfl (by kernel_rfl) (by decide) (fun K hK => ?_)
  refine value_ (v := .slice (some ⟨w5.heap.size, 0, none⟩) 1 1) (w1 := w5.alloc (.cells #[.int .i64 cd, .int .i64 1, .slice Al l.length cl] 92)) (by rfl) rfl ?_ ?_
  ·
   go_simp
  refine hK.out _ _ ⟨y54, y55, y53⟩ (fun hHeld => ?_)
  clear hK K; refine norm_ (a' := ?_) ?_ ?_
  rotate_left
  ·
   show Act.put _ (some 20) _ = _
   simp only [Act.put, sa', sb', sc', i64_w, i32_w]
   rfl
  refine one_ (i := 9) (N := some 21) #[true, true, true, true, true, true, true, true, true, true, false] rfl rfl (by kernel_rfl) (by decide) (fun K hK => ?_)
  refine Kd.S_append_step EdgK (w0 := W) B (by rfl) (.tmp 12) (.tmp 20) 89 92 (.agg #[.int .i64 0, .int .i64 0, .slice none 0 0]) 40 (by rfl) Try.underlying89 hinfoE.out rfl (by decide) (by omega) (.slice Ao s.length co) s (cd, 1, l) [.int .i64 cd, .int .i64 1, .slice Al l.length cl] (fun k => k ≠ bo) (fun k => W0.heap.size ≤ k ∧ k < W.heap.size ∧ k ≠ bo) (by rfl) (by rfl) ?aP ?aK ?aF ?aO ?aB ?aS ?aL ?_
  (case aP => exact M_edge (Kd.R_lower (Kd.R_below HR2.out HW5.out) HB0.out))
  (case aK => exact fun k hk => ⟨hk.2.2, fun e => by have := HSL0.out k e.symm; omega⟩)
  (case aF => exact fun k hk => by have := HLO.out; have := HW5.out.size; have := HSZ.out; omega)
  (case aO => exact Kd.S_mono (Kd.S_below HS.out HW5.out) (fun k hk => ⟨hk.1, fun q => by omega⟩))
  (case aB => exact HW5.out.mono HBW.out)
  (case aS => exact Nat.le_trans HBW.out HW5.out.size)
  (case aL => have := HLIM.out; omega)
  intro v6 w6 ho hb hg hat; obtain ⟨A6, c6, e6⟩ := Kd.S_slice ho
  rw [List.length_append, List.length_singleton] at e6
  subst e6; have HO6 := am' ho
  have HB6 := am' hb
  have HG6 := am' hg
  have HA6 := am' hat
  have HK6 := am' (show Kept W w6 (fun k => k = bo ∨ some k = (Value.slice Ao s.length co).ownBlock) from Kept.of_grown hg (Kept.of_below HW5.out _) (fun k hk => .inl (.inr hk.symm)))
  have HY := am' ((hg.block bo (Nat.lt_of_lt_of_le (Nat.lt_of_lt_of_le HLO.out HSZ.out) HW5.out.size) (Kd.S_away HS.out (fun k hk => hk.1))).trans (blk_below HBO.out HW5.out))
  clear ho hb hg hat; have y62 : w6.cell? ⟨bo, 0, none⟩ = some (.slice Ao s.length co) := (blk_cell HY.out 0).trans rfl
  have y63 := blk_frozen HY.out 0
  have y60 : w6.cell? ⟨ps, 0, none⟩ = some (.slice A1 ov.length c1) := (blk_cell (blk_kept HFR.out.bs HK6.out HFR.out.ns) 0).trans rfl
  have y61 : w6.cell? ⟨ps, 1, none⟩ = some (.bool tr) := (blk_cell (blk_kept HFR.out.bs HK6.out HFR.out.ns) 1).trans rfl
  have HK7 := am' (show Kept W (w6.setCell ⟨bo, 0, none⟩ (.slice A6 (s.length + 1) c6)) (fun k => k = bo ∨ some k = (Value.slice Ao s.length co).ownBlock) from Kept.setCell HK6.out (.inl (.inl rfl)) _)
  refine hK.out _ _ ⟨y60, y61, y62⟩ (fun hHeld => ?_)
  clear hK K; refine norm_ (a' := ?_) ?_ ?_
  rotate_left
  ·
   show Act.put _ (some 21) _ = _
   simp only [Act.put, sa', sb', sc', i64_w, i32_w]
   rfl
  refine last_ (i := 10) (N := none) #[true, true, true, true, true, true, true, true, true, true, true] rfl rfl (by kernel_rfl) (by decide) (fun K hK => ?_)
  refine skip_ (w1 := ?_) (by rfl) rfl ?_ ?_
  rotate_left
  ·
   go_simp; rfl
  refine hK.out _ _ ?_
  clear hK K; refine done_ (by kernel_rfl) ?_
  go_wp2
  go_end0
  have hnew : ∀ k, (k = bo ∨ some k = (Value.slice A6 (s.length + 1) c6).ownBlock) → (k = bo ∨ some k = (Value.slice Ao s.length co).ownBlock) ∨ W.heap.size ≤ k := by
   rintro k (rfl | hk)
   ·
    exact .inl (.inl rfl)
   ·
    rcases HA6.out with q | ⟨b, q, hb⟩
    ·
     exact .inl (.inr (hk.trans q))
    ·
     rw [q] at hk
     cases hk
     exact .inr (Nat.le_trans HW5.out.size hb)
  refine ⟨rfl, ?_, _, ⟨⟨_, blk_put HY.out 0 _ rfl, HBE.out, ?_, rfl⟩, HFR.out.turn HK7.out hnew⟩, HK7.out, hnew⟩
  ·
   first | exact HB6.out.setCell HBE.out _ | exact below_drew (HB6.out.setCell HBE.out _) | exact bd' (HB6.out.setCell HBE.out _) _
  ·
   exact Kd.S_far HO6.out (p := ⟨bo, 0, none⟩) (fun k hk => hk) _
 | true =>
  have HSL2 := am' (HSL.out rfl)
  go_enter Try.func108, Try.ntmps108
  go_wp2_with (go_at_call 109; (with_reducible refine HSL2.out.mono ?_); rintro e wa ⟨rfl, hba⟩; have HW := am' hba; clear x0 xt xp s0 s1 hba)
  have x0 : wa.cell? ⟨bo, 0, none⟩ = some (.slice Ao s.length co) := (blk_cell (blk_below HBO.out HW.out) 0).trans rfl
  have s0 : wa.cell? ⟨ps, 0, none⟩ = some (.slice A1 ov.length c1) := (blk_cell (blk_below HFR.out.bs HW.out) 0).trans rfl
  have s1 : wa.cell? ⟨ps, 1, none⟩ = some (.bool tr) := (blk_cell (blk_below HFR.out.bs HW.out) 1).trans rfl
  refine start_ (n := 11) (S := fun w' => w'.cell? ⟨ps, 0, none⟩ = some (.slice A1 ov.length c1) ∧ w'.cell? ⟨ps, 1, none⟩ = some (.bool tr) ∧ w'.cell? ⟨bo, 0, none⟩ = some (.slice Ao s.length co)) (ds := [10]) #[false, false, false, false, false, false, false, false, false, false, false] (by kernel_rfl) rfl rfl ⟨s0, s1, x0⟩ (fun hHeld => ?_)
  refine take_ (i := 0) (N := some 12) (v := ?_) (a' := ?_) #[true, false, false, false, false, false, false, false, false, false, false] rfl rfl (by kernel_rfl) (fun _ _ _ h => h) (Or.inl ⟨by rfl, ?_⟩) hHeld ?_ ?_
  rotate_left
  ·
   rintro w' ⟨s0_, s1_, s2_⟩
   go_simp; with_reducible rfl
  rotate_left
  ·
   simp only [Act.put, sa', sb', sc', i64_w, i32_w]
   rfl
  refine take_ (i := 1) (N := some 13) (v := ?_) (a' := ?_) #[true, true, false, false, false, false, false, false, false, false, false] rfl rfl (by kernel_rfl) (fun _ _ _ h => h) (Or.inl ⟨by rfl, ?_⟩) hHeld ?_ ?_
  rotate_left
  ·
   rintro w' ⟨s0_, s1_, s2_⟩
   go_simp; with_reducible rfl
  rotate_left
  ·
   simp only [Act.put, sa', sb', sc', i64_w, i32_w]
   rfl
  refine pure_ (i := 2) (N := some 14) (v := ?_) (a' := ?_) #[true, true, true, false, false, false, false, false, false, false, false] rfl rfl (by kernel_rfl) (fun _ _ _ h => h) (Or.inl ⟨by rfl, ?_⟩) ?_ ?_
  rotate_left
  ·
   intro w'; go_simp; with_reducible rfl
  rotate_left
  ·
   simp only [Act.put, sa', sb', sc', i64_w, i32_w]
   rfl
  refine pure_ (i := 5) (N := some 17) (v := ?_) (a' := ?_) #[true, true, true, false, false, true, false, false, false, false, false] rfl rfl (by kernel_rfl) (fun _ _ _ h => h) (Or.inl ⟨by rfl, ?_⟩) ?_ ?_
  rotate_left
  ·
   intro w'; go_simp; with_reducible rfl
  rotate_left
  ·
   simp only [Act.put, sa', sb', sc', i64_w, i32_w]
   rfl
  refine pure_ (i := 6) (N := some 18) (v := ?_) (a' := ?_) #[true, true, true, false, false, true, true, false, false, false, false] rfl rfl (by kernel_rfl) (fun _ _ _ h => h) (Or.inl ⟨by rfl, ?_⟩) ?_ ?_
  rotate_left
  ·
   intro w'; go_simp; with_reducible rfl
  rotate_left
  ·
   simp only [Act.put, sa', sb', sc', i64_w, i32_w]
   rfl
  refine one_ (i := 3) (N := some 15) #[true, true, true, true, false, true, true, false, false, false, false] rfl rfl (by kernel_rfl) (by decide) (fun K hK => ?_)
  refine goes_ Try.func110 (by kernel_rfl) rfl #[.agg #[.slice A1 ov.length c1, .bool tr], .slice Al l.length cl] (by rfl) rfl rfl (by (try simp only [List.map_toArray, List.map_cons, List.map_nil]); first | done | rfl) ?_
  refine (HM.out _ ?sideM).mono ?_
  (case sideM => (repeat (first | (with_reducible exact HW.out) | apply be' | apply bd')))
  rintro e w4 ⟨v4, rfl, ho4, hb4⟩
  obtain ⟨A4, c4, rfl, hc4, hC4⟩ := Kd.R_reads ho4
  have HW4 := am' (below_step (by repeat (first | (with_reducible exact HW.out) | apply ba' | apply be' | apply bd')) hb4)
  have HC4 := am' hC4
  have HL4 := am' hc4
  have HO4 := am' (Below.refl w4.heap.size w4)
  have y40 : w4.cell? ⟨ps, 0, none⟩ = some (.slice A1 ov.length c1) := (blk_cell (blk_below HFR.out.bs HW4.out) 0).trans rfl
  have y41 : w4.cell? ⟨ps, 1, none⟩ = some (.bool tr) := (blk_cell (blk_below HFR.out.bs HW4.out) 1).trans rfl
  have y42 : w4.cell? ⟨bo, 0, none⟩ = some (.slice Ao s.length co) := (blk_cell (blk_below HBO.out HW4.out) 0).trans rfl
  clear ho4 hb4 hC4 hc4; refine ⟨_, rfl, ?_⟩
  refine hK.out _ _ ⟨y40, y41, y42⟩ (fun hHeld => ?_)
  clear hK K; refine norm_ (a' := ?_) ?_ ?_
  rotate_left
  ·
   show Act.put _ (some 15) _ = _
   simp only [Act.put, sa', sb', sc', i64_w, i32_w]
   rfl
  refine one_ (i := 4) (N := some 16) #[true, true, true, true, true, true, true, false, false, false, false] rfl rfl (by kernel_rfl) (by decide) (fun K hK => ?_)
  refine goes_ Try.func92 (by kernel_rfl) rfl #[.agg #[.slice A4 mo.length c4, .bool mt]] (by rfl) rfl rfl (by (try simp only [List.map_toArray, List.map_cons, List.map_nil]); first | done | rfl) ?_
  refine (HC.out _ A4 c4 ?sideC HL4.out).mono ?_
  (case sideC => (exact Kd.C_below HC4.out (by repeat (first | (with_reducible exact HO4.out) | apply ba' | apply be' | apply bd'))))
  rintro e w5 ⟨rfl, hb5⟩
  have HW5 := am' (below_step (by repeat (first | (with_reducible exact HW4.out) | apply ba' | apply be' | apply bd')) hb5)
  have y50 : w5.cell? ⟨ps, 0, none⟩ = some (.slice A1 ov.length c1) := (blk_cell (blk_below HFR.out.bs HW5.out) 0).trans rfl
  have y51 : w5.cell? ⟨ps, 1, none⟩ = some (.bool tr) := (blk_cell (blk_below HFR.out.bs HW5.out) 1).trans rfl
  have y52 : w5.cell? ⟨bo, 0, none⟩ = some (.slice Ao s.length co) := (blk_cell (blk_below HBO.out HW5.out) 0).trans rfl
  have y53 : (w5.alloc (.cells #[.int .i64 cd, .int .i64 c, .slice Al l.length cl] 92)).cell? ⟨bo, 0, none⟩ = some (.slice Ao s.length co) := (blk_cell (ka' (blk_below HBO.out HW5.out) _) 0).trans rfl
  have HO5 := am' (Below.refl w5.heap.size w5)
  clear hb5; have y54 : (w5.alloc (.cells #[.int .i64 cd, .int .i64 c, .slice Al l.length cl] 92)).cell? ⟨ps, 0, none⟩ = some (.slice A1 ov.length c1) := (blk_cell (ka' (blk_below HFR.out.bs HW5.out) _) 0).trans rfl
  have y55 : (w5.alloc (.cells #[.int .i64 cd, .int .i64 c, .slice Al l.length cl] 92)).cell? ⟨ps, 1, none⟩ = some (.bool tr) := (blk_cell (ka' (blk_below HFR.out.bs HW5.out) _) 1).trans rfl
  refine ⟨_, rfl, ?_⟩
  refine hK.out _ _ ⟨y50, y51, y52⟩ (fun hHeld => ?_)
  clear hK K; refine norm_ (a' := ?_) ?_ ?_
  rotate_left
  ·
   show Act.put _ (some 16) _ = _
   simp only [Act.put, sa', sb', sc', i64_w, i32_w]
   rfl
  refine pure_ (i := 7) (N := some 19) (v := ?_) (a' := ?_) #[true, true, true, true, true, true, true, true, false, false, false] rfl rfl (by kernel_rfl) (fun _ _ _ h => h) (Or.inl ⟨by rfl, ?_⟩) ?_ ?_
  rotate_left
  ·
   intro w'; go_simp; with_reducible rfl
  rotate_left
  ·
   simp only [Act.put, sa', sb', sc', i64_w, i32_w]
   rfl
  refine one_ (i := 8) (N := some 20) #[true, true, true, true, true, true, true, true, true, false, false] rfl rfl (by kernel_rfl) (by decide) (fun K hK => ?_)
  refine value_ (v := .slice (some ⟨w5.heap.size, 0, none⟩) 1 1) (w1 := w5.alloc (.cells #[.int .i64 cd, .int .i64 c, .slice Al l.length cl] 92)) (by rfl) rfl ?_ ?_
  ·
   go_simp
  refine hK.out _ _ ⟨y54, y55, y53⟩ (fun hHeld => ?_)
  clear hK K; refine norm_ (a' := ?_) ?_ ?_
  rotate_left
  ·
   show Act.put _ (some 20) _ = _
   simp only [Act.put, sa', sb', sc', i64_w, i32_w]
   rfl
  refine one_ (i := 9) (N := some 21) #[true, true, true, true, true, true, true, true, true, true, false] rfl rfl (by kernel_rfl) (by decide) (fun K hK => ?_)
  refine Kd.S_append_step EdgK (w0 := W) B (by rfl) (.tmp 12) (.tmp 20) 89 92 (.agg #[.int .i64 0, .int .i64 0, .slice none 0 0]) 40 (by rfl) Try.underlying89 hinfoE.out rfl (by decide) (by omega) (.slice Ao s.length co) s (cd, c, l) [.int .i64 cd, .int .i64 c, .slice Al l.length cl] (fun k => k ≠ bo) (fun k => W0.heap.size ≤ k ∧ k < W.heap.size ∧ k ≠ bo) (by rfl) (by rfl) ?aP ?aK ?aF ?aO ?aB ?aS ?aL ?_
  (case aP => exact M_edge (Kd.R_lower (Kd.R_below HR2.out HW5.out) HB0.out))
  (case aK => exact fun k hk => ⟨hk.2.2, fun e => by have := HSL0.out k e.symm; omega⟩)
  (case aF => exact fun k hk => by have := HLO.out; have := HW5.out.size; have := HSZ.out; omega)
  (case aO => exact Kd.S_mono (Kd.S_below HS.out HW5.out) (fun k hk => ⟨hk.1, fun q => by omega⟩))
  (case aB => exact HW5.out.mono HBW.out)
  (case aS => exact Nat.le_trans HBW.out HW5.out.size)
  (case aL => have := HLIM.out; omega)
  intro v6 w6 ho hb hg hat; obtain ⟨A6, c6, e6⟩ := Kd.S_slice ho
  rw [List.length_append, List.length_singleton] at e6
  subst e6; have HO6 := am' ho
  have HB6 := am' hb
  have HG6 := am' hg
  have HA6 := am' hat
  have HK6 := am' (show Kept W w6 (fun k => k = bo ∨ some k = (Value.slice Ao s.length co).ownBlock) from Kept.of_grown hg (Kept.of_below HW5.out _) (fun k hk => .inl (.inr hk.symm)))
  have HY := am' ((hg.block bo (Nat.lt_of_lt_of_le (Nat.lt_of_lt_of_le HLO.out HSZ.out) HW5.out.size) (Kd.S_away HS.out (fun k hk => hk.1))).trans (blk_below HBO.out HW5.out))
  clear ho hb hg hat; have y62 : w6.cell? ⟨bo, 0, none⟩ = some (.slice Ao s.length co) := (blk_cell HY.out 0).trans rfl
  have y63 := blk_frozen HY.out 0
  have y60 : w6.cell? ⟨ps, 0, none⟩ = some (.slice A1 ov.length c1) := (blk_cell (blk_kept HFR.out.bs HK6.out HFR.out.ns) 0).trans rfl
  have y61 : w6.cell? ⟨ps, 1, none⟩ = some (.bool tr) := (blk_cell (blk_kept HFR.out.bs HK6.out HFR.out.ns) 1).trans rfl
  have HK7 := am' (show Kept W (w6.setCell ⟨bo, 0, none⟩ (.slice A6 (s.length + 1) c6)) (fun k => k = bo ∨ some k = (Value.slice Ao s.length co).ownBlock) from Kept.setCell HK6.out (.inl (.inl rfl)) _)
  refine hK.out _ _ ⟨y60, y61, y62⟩ (fun hHeld => ?_)
  clear hK K; refine norm_ (a' := ?_) ?_ ?_
  rotate_left
  ·
   show Act.put _ (some 21) _ = _
   simp only [Act.put, sa', sb', sc', i64_w, i32_w]
   rfl
  refine last_ (i := 10) (N := none) #[true, true, true, true, true, true, true, true, true, true, true] rfl rfl (by kernel_rfl) (by decide) (fun K hK => ?_)
  refine skip_ (w1 := ?_) (by rfl) rfl ?_ ?_
  rotate_left
  ·
   go_simp; rfl
  refine hK.out _ _ ?_
  clear hK K; refine done_ (by kernel_rfl) ?_
  go_wp2
  go_end0
  have hnew : ∀ k, (k = bo ∨ some k = (Value.slice A6 (s.length + 1) c6).ownBlock) → (k = bo ∨ some k = (Value.slice Ao s.length co).ownBlock) ∨ W.heap.size ≤ k := by
   rintro k (rfl | hk)
   ·
    exact .inl (.inl rfl)
   ·
    rcases HA6.out with q | ⟨b, q, hb⟩
    ·
     exact .inl (.inr (hk.trans q))
    ·
     rw [q] at hk
     cases hk
     exact .inr (Nat.le_trans HW5.out.size hb)
  refine ⟨rfl, ?_, _, ⟨⟨_, blk_put HY.out 0 _ rfl, HBE.out, ?_, rfl⟩, HFR.out.turn HK7.out hnew⟩, HK7.out, hnew⟩
  ·
   first | exact HB6.out.setCell HBE.out _ | exact below_drew (HB6.out.setCell HBE.out _) | exact bd' (HB6.out.setCell HBE.out _) _
  ·
   exact Kd.S_far HO6.out (p := ⟨bo, 0, none⟩) (fun k hk => hk) _
theorem three_blocks (w : World) (o0 o1 o2 : Obj) : (((w.alloc o0).alloc o1).alloc o2).heap[w.heap.size]? = some o0 ∧ (((w.alloc o0).alloc o1).alloc o2).heap[w.heap.size + 1]? = some o1 ∧ (((w.alloc o0).alloc o1).alloc o2).heap[w.heap.size + 1 + 1]? = some o2 ∧ Below w.heap.size w (((w.alloc o0).alloc o1).alloc o2) := by
 obtain ⟨h0, h1, h2⟩ := two_blocks w o0 o1
 refine ⟨ka' h0 _, ka' h1 _, ?_, ba' h2 _⟩
 have := heap_alloc_new ((w.alloc o0).alloc o1) o2
 rwa [World.size_alloc, World.size_alloc] at this
def ptyOut (k : Nat) (timed : Bool) (l0 : List Int) (m : Int) (code : Int) : Option (List Edg) := (impl_stateOf.f k (l0.length : Int) code).bind fun st => (impl_State_side.f k st.1 st.2 st.2).bind fun sd => if sd.length ≤ 20 then (grpsF m sd []).foldlM (ptyStep k timed l0 st.1 st.2) [] else none
set_option maxHeartbeats 4000000 in
set_option maxRecDepth 100000 in
theorem party_out (k : Nat) (timed : Bool) (A0 : Option Addr) (c0 : Nat) (l0 : List Int) (m : Int) (pn pp pt : Nat) (W0 : World) (hbn : W0.heap[pn]? = some (.cells #[.int .i64 (l0.length : Int)] 3 (0, 0))) (hbp : W0.heap[pp]? = some (.cells #[.slice A0 l0.length c0, .int .i64 m] 28 (0, 0))) (hbt : W0.heap[pt]? = some (.cells #[.bool timed] 4 (0, 0))) (hr : Kd.C (Kd.int .i64) W0 A0 l0.length l0) (hc : l0.length ≤ c0) : OutOk 104 #[.pointer (some ⟨pn, 0, none⟩), .pointer (some ⟨pp, 0, none⟩), .pointer (some ⟨pt, 0, none⟩)] (ptyOut k timed l0 m) W0 := by
 intro W hW code es hs; have hu0 := Try.underlying28
 have hu1 := Try.underlying44
 unfold ptyOut at hs
 obtain ⟨⟨ov, tr⟩, hst, hs⟩ := Option.bind_eq_some_iff.mp hs
 obtain ⟨sd, hsd, hs⟩ := Option.bind_eq_some_iff.mp hs
 dsimp only at hsd hs
 by_cases hlen : sd.length ≤ 20
 ·
  rw [if_pos hlen] at hs; have HLEN := am' hlen
  have HFO := am' hs
  have HST := am' (impl_stateOf.calls k (l0.length : Int) code ov tr W hst)
  have HSD := am' (fun (W1 : World) (A1 : Option Addr) (c1 : Nat) (hC : Kd.C Kd.bool W1 A1 ov.length ov) (hl : ov.length ≤ c1) => impl_State_side.calls k A1 c1 ov tr tr sd W1 hC hl hsd)
  have BN := am' (blk_below hbn hW)
  have BP := am' (blk_below hbp hW)
  have BTT := am' (blk_below hbt hW)
  have HWS := am' hW.size
  have HPN := am' (blk_lt (blk_below hbp hW))
  have HTN := am' (blk_lt (blk_below hbt hW))
  have HF0 := am' (Kd.F_below (Kd.C_F (Kd.heap_int .i64) hr) hW)
  have HC0 := am' hc
  have xn : W.cell? ⟨pn, 0, none⟩ = some (.int .i64 (l0.length : Int)) := (blk_cell BN.out 0).trans rfl
  clear hbn hbp hbt hW hr hc hst hsd hs hlen; go_enter Try.func104, Try.ntmps104
  go_wp2_with (go_at_call 105; (with_reducible refine HST.out.mono ?_); rintro e w1 ⟨v1, rfl, ho1, hb1⟩; obtain ⟨A1, c1, rfl, hc1, hC1⟩ := Kd.R_reads ho1; have HB1 := am' hb1; have HO1 := am' ho1; have HC1 := am' hC1; have HL1 := am' hc1; clear ho1 hb1 hC1 hc1 xn)
  have HB3 := am' (three_blocks w1 (.cells #[] 92) (.cells #[.slice A1 ov.length c1, .bool tr] 44) (.cells #[.slice (some ⟨w1.heap.size, 0, none⟩) 0 0] 89))
  generalize hW3 : ((w1.alloc (.cells #[] 92)).alloc (.cells #[.slice A1 ov.length c1, .bool tr] 44)).alloc (.cells #[.slice (some ⟨w1.heap.size, 0, none⟩) 0 0] 89) = W3 at HB3 ⊢
  clear hW3; have HW3 := am' (below_step HB1.out HB3.out.2.2.2)
  have HLT := am' (blk_lt HB3.out.2.2.1)
  have HIN := am' (show EOutInv W.heap.size (w1.heap.size + 1 + 1) [] W3 (fun k => k = w1.heap.size + 1 + 1 ∨ some k = (Value.slice (some ⟨w1.heap.size, 0, none⟩) 0 0).ownBlock) from
   ⟨_, HB3.out.2.2.1, by have := HB1.out.size; omega, S_empty EdgK HB3.out.1 HB1.out.size (by omega), rfl⟩)
  have hno : ∀ k, (k = w1.heap.size + 1 + 1 ∨ some k = (Value.slice (some ⟨w1.heap.size, 0, none⟩) 0 0).ownBlock) → k = w1.heap.size + 1 + 1 ∨ k = w1.heap.size := by
   rintro k (rfl | q)
   ·
    exact .inl rfl
   ·
    have q := Option.some.inj (show some _ = some _ from q)
    exact .inr q
  have HNO := am' hno
  clear hno
  have HPF := am' (show PtyFr pt pp (w1.heap.size + 1) timed A0 c0 l0 m A1 c1 ov tr W3 (fun k => k = w1.heap.size + 1 + 1 ∨ some k = (Value.slice (some ⟨w1.heap.size, 0, none⟩) 0 0).ownBlock) from
   ⟨blk_below BTT.out HW3.out, blk_below BP.out HW3.out, HB3.out.2.1, fun q => by have h1 := HNO.out _ q; have h2 := HTN.out; have h3 := HB1.out.size; omega, fun q => by have h1 := HNO.out _ q; have h2 := HPN.out; have h3 := HB1.out.size; omega, fun q => by have h1 := HNO.out _ q; omega,
    Kd.F_mono (Kd.F_below HF0.out HW3.out) (fun k hk q => by have h1 := HNO.out _ q; have h2 := HWS.out; have h3 := HB1.out.size; omega), Kd.F_mono (Kd.F_below (Kd.R_F (Kd.R_bound HO1.out)) HB3.out.2.2.2) (fun k hk q => by have h1 := HNO.out _ q; have h2 := hk.2.2.1; omega), HC0.out, HL1.out⟩)
  have x0 : W3.cell? ⟨w1.heap.size + 1, 0, none⟩ = some (.slice A1 ov.length c1) := (blk_cell HB3.out.2.1 0).trans rfl
  have x1 : W3.cell? ⟨w1.heap.size + 1, 1, none⟩ = some (.bool tr) := (blk_cell HB3.out.2.1 1).trans rfl
  have x2 : W3.cell? ⟨pp, 1, none⟩ = some (.int .i64 m) := (blk_cell (blk_below BP.out HW3.out) 1).trans rfl
  have HR0 := am' (Below.refl W3.heap.size W3)
  have HC3 := am' (Kd.C_below HC1.out HB3.out.2.2.2)
  go_region_held3 (fun w' => w'.cell? ⟨w1.heap.size + 1, 0, none⟩ = some (.slice A1 ov.length c1) ∧ w'.cell? ⟨w1.heap.size + 1, 1, none⟩ = some (.bool tr) ∧ w'.cell? ⟨pp, 1, none⟩ = some (.int .i64 m))
   (first | exact ⟨z0, z1, z2⟩ | exact ⟨y0, y1, y2⟩ | go_keep)
   (first | (go_at_call 107; refine (HSD.out _ A1 c1 ?_ HL1.out).mono ?_; (exact Kd.C_below HC3.out (by repeat (first | (with_reducible exact HR0.out) | apply be' | apply bd'))); rintro e w4 ⟨vs, rfl, ho, hb⟩; have HR4 := am' (below_step (by repeat (first | (with_reducible exact HR0.out) | apply be' | apply bd')) hb); have HO4 := am' ho; clear hb ho; have y0 := (HR4.out.cell (bl' W3 _ x0)).trans x0; have y1 := (HR4.out.cell (bl' W3 _ x1)).trans x1; have y2 := (HR4.out.cell (bl' W3 _ x2)).trans x2; obtain ⟨As, cs, es_, hcs, _⟩ := Kd.R_reads HO4.out; subst es_; have HCS := am' hcs; clear hcs) | (go_at_call 106; refine (groups_any (party1_each k W.heap.size (w1.heap.size + 1 + 1) pt pp (w1.heap.size + 1) timed A0 c0 l0 m A1 c1 ov tr) (fun s W O h => EOutInv.lt s W O h.1) (enters_of Try.func108 (by kernel_rfl) rfl) sd m As cs HCS.out (by have := HLEN.out; omega) [] es _ _ ?gB (fun W hb => ⟨HIN.out.below (below_step HR4.out (by (first | exact hb | (simpa using hb)))), HPF.out.turn (Kept.of_below (below_step HR4.out (by (first | exact hb | (simpa using hb)))) _) (fun _ h => .inl h)⟩) ?gF HFO.out).mono ?_; (case gB => exact Nat.le_trans HW3.out.size (by have := HR4.out.size; first | exact this | simpa using this)); (case gF => exact Kd.F_mono (Kd.R_F (Kd.R_bound HO4.out)) (fun k hk q => by have h1 := HLT.out; have h2 := hk.2.1; have h3 := HNO.out k q; (try simp at h2); omega)); rintro e w5 ⟨rfl, hb5, O5, ⟨⟨v5, hv5, _, hS5, _⟩, _⟩, hk5, ho5⟩; obtain ⟨A5, c5, e5⟩ := Kd.S_slice hS5; subst e5; have HV5 := am' hv5; have HS5 := am' hS5; have HB5 := am' hb5; have z0 := cell_kept y0 hk5 (fun q => by have h1 := HNO.out _ q; first | omega | (simp at h1; done) | (simp at h1; omega)); have z1 := cell_kept y1 hk5 (fun q => by have h1 := HNO.out _ q; first | omega | (simp at h1; done) | (simp at h1; omega)); have z2 := cell_kept y2 hk5 (fun q => by have h1 := HNO.out _ q; have h2 := HPN.out; have h3 := HB1.out.size; first | omega | (simp at h1; done) | (simp at h1; omega)); clear hv5 hS5 hb5 hk5 ho5))
  all_goals
   have hv5 : w5.cell? ⟨w1.heap.size + 1 + 1, 0, none⟩ = some (.slice A5 es.length c5) := (blk_cell HV5.out 0).trans rfl
   go_wp2
   go_ret
   exact ⟨_, rfl, Kd.S_mono HS5.out (fun _ _ => trivial), (HW3.out.trans (HR4.out.mono (by have := HW3.out.size; omega))).trans HB5.out⟩
 ·
  rw [if_neg hlen] at hs; cases hs
set_option maxHeartbeats 2000000 in
set_option maxRecDepth 100000 in
theorem party_graph2 (timed : Bool) (A0 : Option Addr) (c0 : Nat) (l0 : List Int) (m : Int) (w : World) : Calls Try.prog 66 #[.agg #[.slice A0 l0.length c0, .int .i64 m], .bool timed] w fun e w' => ∃ pn pp pt, e = .returned (.agg #[.int .i64 (wrap64 (2 * 2 ^ min l0.length 64)), .func (.func 104) #[] #[.pointer (some ⟨pn, 0, none⟩), .pointer (some ⟨pp, 0, none⟩), .pointer (some ⟨pt, 0, none⟩)]]) ∧ w'.heap[pn]? = some (.cells #[.int .i64 (l0.length : Int)] 3 (0, 0)) ∧ w'.heap[pp]? = some (.cells #[.slice A0 l0.length c0, .int .i64 m] 28 (0, 0)) ∧ w'.heap[pt]? = some (.cells #[.bool timed] 4 (0, 0)) ∧ (w.heap.size ≤ pn ∧ w.heap.size ≤ pp ∧ w.heap.size ≤ pt) ∧ Below w.heap.size w w' := by
 have hu := Try.underlying28
 have hug := Try.underlying67
 have HB := am' (four_blocks w (.cells #[.slice A0 l0.length c0, .int .i64 m] 28) (.cells #[.bool timed] 4) (.cells #[.int .i64 (wrap64 (2 * 2 ^ min l0.length 64)), .func (.func 104) #[] #[.pointer (some ⟨w.heap.size + 1 + 1 + 1, 0, none⟩), .pointer (some ⟨w.heap.size, 0, none⟩), .pointer (some ⟨w.heap.size + 1, 0, none⟩)]] 67) (.cells #[.int .i64 (l0.length : Int)] 3))
 go_enter Try.func66, Try.ntmps66
 go_wp2_with fail
 refine bodyPost_ret (results_cell_row rfl _ _ (w.heap.size + 1 + 1) 67 #[.int .i64 (wrap64 (2 * 2 ^ min l0.length 64)), .func (.func 104) #[] #[.pointer (some ⟨w.heap.size + 1 + 1 + 1, 0, none⟩), .pointer (some ⟨w.heap.size, 0, none⟩), .pointer (some ⟨w.heap.size + 1, 0, none⟩)]] (0, 0) _ rfl HB.out.2.2.1 Try.underlying67 rfl (by kernel_rfl)) rfl ?_
 exact ⟨_, _, _, rfl, HB.out.2.2.2.1, HB.out.1, HB.out.2.1, ⟨by omega, by omega, by omega⟩, HB.out.2.2.2.2⟩
theorem party_graph (timed : Bool) (A0 : Option Addr) (c0 : Nat) (l0 : List Int) (m : Int) (w : World) : Calls Try.prog 66 #[.agg #[.slice A0 l0.length c0, .int .i64 m], .bool timed] w fun e w' => ∃ pn pp pt, e = .returned (.agg #[.int .i64 (wrap64 (2 * 2 ^ min l0.length 64)), .func (.func 104) #[] #[.pointer (some ⟨pn, 0, none⟩), .pointer (some ⟨pp, 0, none⟩), .pointer (some ⟨pt, 0, none⟩)]]) ∧ w'.heap[pn]? = some (.cells #[.int .i64 (l0.length : Int)] 3 (0, 0)) ∧ w'.heap[pp]? = some (.cells #[.slice A0 l0.length c0, .int .i64 m] 28 (0, 0)) ∧ w'.heap[pt]? = some (.cells #[.bool timed] 4 (0, 0)) ∧ Below w.heap.size w w' :=
 (party_graph2 timed A0 c0 l0 m w).mono (by rintro e w' ⟨pn, pp, pt, h1, h2, h3, h4, _, h5⟩; exact ⟨pn, pp, pt, h1, h2, h3, h4, h5⟩)
theorem bkI_up {o1 o2 : Int → Option (List Edg)} (ho : ∀ s, LeO (o1 s) (o2 s)) (d : Nat) : ∀ k i dist wt, LeO (bkI o1 d k i dist wt) (bkI o2 d (k + 1) i dist wt) := by
 intro k; induction k with
 | zero => intro i dist wt r h; simp [bkI] at h
 | succ k ih =>
  intro i dist wt; rw [bkI, bkI]
  exact LeO.ite (LeO.ite (LeO.ite (ih _ _ _) (LeO.bind (ho _) (fun _ => LeO.bind (LeO.refl _) (fun _ => ih _ _ _)))) (LeO.refl _)) (LeO.refl _)
theorem bkD_up {o1 o2 : Int → Option (List Edg)} (ho : ∀ s, LeO (o1 s) (o2 s)) : ∀ k d dist wt, LeO (bkD o1 k d dist wt) (bkD o2 (k + 1) d dist wt) := by
 intro k; induction k with
 | zero => intro d dist wt r h; simp [bkD] at h
 | succ k ih =>
  intro d dist wt; rw [bkD, bkD]
  exact LeO.ite (LeO.ite (LeO.bind (bkI_up ho d _ _ _ _) (fun _ => ih _ _ _)) (LeO.refl _)) (LeO.refl _)
theorem pow_le8 {n : Nat} (h : n ≤ 8) : 0 < 2 ^ (n + 1) ∧ 2 ^ (n + 1) ≤ 1024 ∧ wrap64 (2 * 2 ^ min n 64) = ((2 ^ (n + 1) : Nat) : Int) := by
 have : n = 0 ∨ n = 1 ∨ n = 2 ∨ n = 3 ∨ n = 4 ∨ n = 5 ∨ n = 6 ∨ n = 7 ∨ n = 8 := by omega
 rcases this with rfl | rfl | rfl | rfl | rfl | rfl | rfl | rfl | rfl <;> exact ⟨by decide, by decide, by decide +kernel⟩
theorem R_one {w : World} {b base : Nat} {x : Int} {e : Nat} (h : w.heap[b]? = some (.cells #[.int .i64 x] e (0, 0))) (hB : base ≤ b) : (Kd.int .i64).R e w base (fun _ => True) (.slice (some ⟨b, 0, none⟩) 1 1) [x] := by
 refine Kd.R_of_own ?_ (fun k hk => trivial)
 exact ⟨by simp [encs], .inr ⟨b, 1, _, rfl, hB, h, Nat.le_refl _, by decide, by simp, by simp [encs]⟩⟩
theorem in_inB (x lo hi : Int) : impl_in.f x lo hi = some (inB lo hi x) := by
 unfold impl_in.f inB
 by_cases h : lo ≤ x
 ·
  rw [if_pos h, decide_eq_true h]; rfl
 ·
  rw [if_neg h, decide_eq_false h]; rfl
theorem take_snoc (l : List Int) (i : Nat) (h : i < l.length) : l.take (i + 1) = l.take i ++ [rd l (i : Nat)] := by
 rw [List.take_add_one]
 simp [rd, List.getD_eq_getElem?_getD, List.getElem?_eq_getElem h]
def impl_ReachedIn.f (k : Nat) (l0_0 : List Int) (a0_1 : Int) (a1 : Int) : Option (Int × Bool) :=
 (impl_IsParty.f l0_0 a0_1).bind fun t => if t = true then (if inB 0 100000 a1 = true then (if l0_0.length ≤ 8 then (bkD (ptyOut k true l0_0 a0_1) k 0 (List.replicate (2 ^ (l0_0.length + 1)) (-1)) [[0]]).bind fun r => if r.length = 2 ^ (l0_0.length + 1) then some (((r.countP (inB 0 a1) : Nat) : Int), true) else none else none) else some (0, false)) else some (0, false)
set_option maxHeartbeats 4000000 in
set_option maxRecDepth 100000 in
theorem impl_ReachedIn.calls (k : Nat) (A0_0 : Option Addr) (c0_0 : Nat) (l0_0 : List Int) (a0_1 : Int) (a1 : Int) (r1 : Int) (r2 : Bool) (w : World) (hr0_0 : Kd.C (Kd.int .i64) w A0_0 l0_0.length l0_0) (hc0_0 : l0_0.length ≤ c0_0) (h : impl_ReachedIn.f k l0_0 a0_1 a1 = some (r1, r2)) :
  Calls Try.prog 19 #[.agg #[.slice A0_0 l0_0.length c0_0, .int .i64 a0_1], .int .i64 a1] w fun e w' => e = .returned (.tuple #[.int .i64 r1, .bool r2]) ∧ Below w.heap.size w w' := by
 have hu := Try.underlying28
 have hug := Try.underlying67
 unfold impl_ReachedIn.f at h
 obtain ⟨t, ht, h⟩ := Option.bind_eq_some_iff.mp h
 have HT := am' (fun (W : World) (hb : Below w.heap.size w W) => impl_IsParty.calls A0_0 c0_0 l0_0 a0_1 t W (Kd.C_below hr0_0 hb) hc0_0 ht)
 have HX := am' (heap_alloc_new w (.cells #[.slice A0_0 l0_0.length c0_0, .int .i64 a0_1] 28))
 have HBX := am' (ba' (Below.refl w.heap.size w) (.cells #[.slice A0_0 l0_0.length c0_0, .int .i64 a0_1] 28))
 have HF0 := am' hr0_0
 have HC0 := am' hc0_0
 clear ht hr0_0 hc0_0; cases t with
 | false =>
  simp only [Bool.false_eq_true, if_false, Option.some.injEq, Prod.mk.injEq] at h
  obtain ⟨rfl, rfl⟩ := h
  go_enter Try.func19, Try.ntmps19
  go_wp2_with fail
  refine (HT.out _ HBX.out).mono ?_
  rintro e w2 ⟨rfl, hb⟩
  have HB := am' (below_step HBX.out hb)
  clear hb; go_wp2
  go_ret2
  exact ⟨rfl, HB.out⟩
 | true =>
  simp only [if_true] at h
  obtain ⟨bi, hbi⟩ : ∃ x, x = inB 0 100000 a1 := ⟨_, rfl⟩
  rw [← hbi] at h
  have HI := am' (show impl_in.f a1 0 100000 = some bi by rw [in_inB, hbi])
  clear hbi; cases bi with
  | false =>
   simp only [Bool.false_eq_true, if_false, Option.some.injEq, Prod.mk.injEq] at h
   obtain ⟨rfl, rfl⟩ := h
   go_enter Try.func19, Try.ntmps19
   go_wp2_with fail
   refine (HT.out _ HBX.out).mono ?_
   rintro e w2 ⟨rfl, hb⟩
   have HB := am' (below_step HBX.out hb)
   clear hb; go_wp2_with fail
   refine (impl_in.calls a1 0 100000 _ _ HI.out).mono ?_
   rintro e w3 ⟨rfl, hd⟩
   have HB3 := am' (below_step HB.out (Drawn0.below hd))
   clear hd; go_wp2
   go_ret2
   exact ⟨rfl, HB3.out⟩
  | true =>
   simp only [if_true] at h
   by_cases hl8 : l0_0.length ≤ 8
   ·
    rw [if_pos hl8] at h; obtain ⟨rr, hd, h⟩ := Option.bind_eq_some_iff.mp h
    by_cases hlen : rr.length = 2 ^ (l0_0.length + 1)
    ·
     rw [if_pos hlen] at h; simp only [Option.some.injEq, Prod.mk.injEq] at h
     obtain ⟨rfl, rfl⟩ := h
     obtain ⟨hp0, hp1, hp2⟩ := pow_le8 hl8
     obtain ⟨N, hN⟩ : ∃ x, x = 2 ^ (l0_0.length + 1) := ⟨_, rfl⟩
     rw [← hN] at hp0 hp1 hp2 hd hlen
     obtain ⟨mv, hmv⟩ : ∃ x, x = wrap64 (2 * 2 ^ min l0_0.length 64) := ⟨_, rfl⟩
     have HG := am' (fun (W : World) => party_graph true A0_0 c0_0 l0_0 a0_1 W)
     rw [← hmv] at HG
     have HMN := am' (hmv.trans hp2)
     have HD := am' hd
     have HP0 := am' hp0
     have HP1 := am' hp1
     have HLEN := am' hlen
     clear hp0 hp1 hp2 hN hmv hd hl8 hlen; go_enter Try.func19, Try.ntmps19
     go_wp2_with fail
     refine (HT.out _ HBX.out).mono ?_
     rintro e w2 ⟨rfl, hb⟩
     have HB := am' (below_step HBX.out hb)
     have HX2 := am' (blk_below HX.out hb)
     clear hb; go_wp2_with fail
     refine (impl_in.calls a1 0 100000 _ _ HI.out).mono ?_
     rintro e w3 ⟨rfl, hd⟩
     have HB3 := am' (below_step HB.out (Drawn0.below hd))
     have HX3 := am' (blk_below HX2.out (Drawn0.below hd))
     clear hd; have x0 : w3.cell? ⟨w.heap.size, 0, none⟩ = some (.slice A0_0 l0_0.length c0_0) := (blk_cell HX3.out 0).trans rfl
     have x1 : w3.cell? ⟨w.heap.size, 1, none⟩ = some (.int .i64 a0_1) := (blk_cell HX3.out 1).trans rfl
     go_wp2_with fail
     refine (HG.out _).mono ?_
     rintro e w4 ⟨pn, pp, pt, rfl, hpn, hpp, hpt, hb4⟩
     have HPN := am' hpn
     have HPP := am' hpp
     have HPT := am' hpt
     have HB4 := am' (below_step HB3.out hb4)
     clear hpn hpp hpt hb4 x0 x1; go_wp2_with fail
     rw [HMN.out]
     have HSTB := am' (ba' (Below.refl w4.heap.size w4) (.cells #[.int .i64 0] 3))
     refine (from_any 104 #[.pointer (some ⟨pn, 0, none⟩), .pointer (some ⟨pp, 0, none⟩), .pointer (some ⟨pt, 0, none⟩)] (ptyOut k true l0_0 a0_1) k N [0] rr w4 _ (enters_of Try.func104 (by kernel_rfl) rfl) (party_out k true A0_0 c0_0 l0_0 a0_1 pn pp pt w4 HPN.out HPP.out HPT.out (Kd.C_below HF0.out HB4.out) HC0.out) (some ⟨w4.heap.size, 0, none⟩) 1 (R_one (heap_alloc_new w4 _) (Nat.le_refl _)) HSTB.out HP0.out HP1.out HD.out).mono ?_
     rintro e w5 ⟨v5, rfl, ho5, hb5⟩
     obtain ⟨gd, cd, hv, _⟩ := Kd.R_form ho5 (by have h1 := HP0.out; have h2 := HLEN.out; omega)
     subst hv; have HO5 := am' ho5
     have HB5 := am' (below_step HB4.out hb5)
     have HN1 := am' (show rr.length ≤ 1024 by have h1 := HP1.out; have h2 := HLEN.out; omega)
     clear ho5 hb5; go_wp2_with fail
     go_loopg [6, 8, 22] rr.length (fun gg v6 _ v22 wr => ∃ i : Nat, v22 = .int .i64 (i : Int) ∧ v6 = .int .i64 ((((rr.take i).countP (inB 0 a1) : Nat)) : Int) ∧ Aside0 (i ≤ rr.length) ∧ Aside0 (rr.length - i ≤ gg) ∧ Aside0 (Below w5.heap.size w5 wr))
     case atStart => exact ⟨0, rfl, rfl, ⟨Nat.zero_le _⟩, ⟨Nat.le_refl _⟩, ⟨Below.refl _ _⟩⟩
     case round =>
      obtain ⟨i, rfl, rfl, HI1, HG1, HW1⟩ := hrel
      by_cases hi : i < rr.length
      ·
       have hiz : (i : Int) < (rr.length : Int) := by omega
       have hx := (HW1.out.cell (bl' w5 _ (Kd.R_celln 0 HO5.out (i : Int) (by omega) hiz).1)).trans (Kd.R_celln 0 HO5.out (i : Int) (by omega) hiz).1
       rw [Int.toNat_natCast] at hx
       obtain ⟨xv, hxv⟩ : ∃ x, x = rd rr (i : Nat) := ⟨_, rfl⟩
       have hx' : wr.cell? ⟨gd, i, none⟩ = some (.int .i64 xv) := by rw [hxv]; simpa [rd, rdOf] using hx
       have HTS := am' (take_snoc rr i hi)
       rw [← hxv] at HTS
       have HCN := am' (show (rr.take i).countP (inB 0 a1) ≤ 1024 from Nat.le_trans List.countP_le_length (by rw [List.length_take]; have := HN1.out; omega))
       obtain ⟨cn, hcn⟩ : ∃ x, x = (rr.take i).countP (inB 0 a1) := ⟨_, rfl⟩
       rw [← hcn] at HCN ⊢
       have HCC := am' hcn
       have HHI := am' hi
       obtain ⟨bx, hbx⟩ : ∃ x, x = inB 0 a1 xv := ⟨_, rfl⟩
       have HBI := am' hbx
       have HIN := am' (show impl_in.f xv 0 a1 = some bx by rw [in_inB, hbx])
       clear hx hxv hcn hbx hi; cases bx with
       | false =>
        go_wp2_with fail
        refine (impl_in.calls xv 0 a1 _ _ HIN.out).mono ?_
        rintro e w6 ⟨rfl, hd6⟩
        have HW6 := am' (below_step HW1.out (Drawn0.below hd6))
        clear hd6; go_wp2_with fail
        refine (impl_bit.calls false 0 _ rfl).mono ?_
        rintro e w7 ⟨rfl, hd7⟩
        have HW7 := am' (below_step HW6.out (Drawn0.below hd7))
        clear hd7; go_wp2
        go_roundg (rr.length - (i + 1))
        case measure => have h1 := HG1.out; have h2 := HHI.out; omega
        case rel =>
         refine ⟨i + 1, by have h2 := HHI.out; have h3 := HN1.out; first | exact nxt (by omega) | exact nxt2 (by omega), ?_, ⟨HHI.out⟩, ⟨Nat.le_refl _⟩, HW7⟩
         rw [HTS.out, List.countP_append, ← HCC.out, List.countP_singleton, ← HBI.out]
         simp only [Bool.false_eq_true, if_false, Nat.add_zero]
         first | rfl | (rw [i64_w, wr_id (by have := HCN.out; omega) (by have := HCN.out; omega)]) | (rw [wr_id (by have := HCN.out; omega) (by have := HCN.out; omega)])
       | true =>
        go_wp2_with fail
        refine (impl_in.calls xv 0 a1 _ _ HIN.out).mono ?_
        rintro e w6 ⟨rfl, hd6⟩
        have HW6 := am' (below_step HW1.out (Drawn0.below hd6))
        clear hd6; go_wp2_with fail
        refine (impl_bit.calls true 1 _ rfl).mono ?_
        rintro e w7 ⟨rfl, hd7⟩
        have HW7 := am' (below_step HW6.out (Drawn0.below hd7))
        clear hd7; go_wp2
        go_roundg (rr.length - (i + 1))
        case measure => have h1 := HG1.out; have h2 := HHI.out; omega
        case rel =>
         refine ⟨i + 1, by have h2 := HHI.out; have h3 := HN1.out; first | exact nxt (by omega) | exact nxt2 (by omega), ?_, ⟨HHI.out⟩, ⟨Nat.le_refl _⟩, HW7⟩
         rw [HTS.out, List.countP_append, ← HCC.out, List.countP_singleton, ← HBI.out]
         simp only [if_true]
         first | rfl | (rw [i64_w, wr_id (by have := HCN.out; omega) (by have := HCN.out; omega)]; rfl) | (rw [wr_id (by have := HCN.out; omega) (by have := HCN.out; omega)]; rfl)
      ·
       have hiz : ¬ (i : Int) < (rr.length : Int) := by omega
       have hie := List.take_of_length_le (show rr.length ≤ i by omega)
       rw [hie]
       clear hie hi; go_wp2
       go_ret2
       exact ⟨rfl, below_step HB5.out HW1.out⟩
    ·
     rw [if_neg hlen] at h; cases h
   ·
    rw [if_neg hl8] at h; cases h
def laws_eqIntS.l0 : Nat → List Int → List Int → Int → Option (Bool)
 | 0, _, _, _ => none
 | k + 1, x0, x1, x5 => if x5 < (x0.length : Int) then (if 0 ≤ x5 then (if x5 < (x1.length : Int) then (if (rd x0 x5) = (rd x1 x5) then (laws_eqIntS.l0 k x0 x1 (wrap64 (x5 + 1))) else (some false)) else (none)) else (none)) else (some true)
def laws_eqIntS.f (k : Nat) (l0 : List Int) (l1 : List Int) : Option (Bool) := if (l0.length : Int) = (l1.length : Int) then (laws_eqIntS.l0 k l0 l1 0) else (some false)
set_option maxHeartbeats 8000000 in
set_option maxRecDepth 100000 in
theorem laws_eqIntS.calls (k : Nat) (A0 : Option Addr) (c0 : Nat) (l0 : List Int) (A1 : Option Addr) (c1 : Nat) (l1 : List Int) (r : Bool) (w : World) (hr0 : Kd.C (Kd.int .i64) w A0 l0.length l0) (hc0 : l0.length ≤ c0) (hr1 : Kd.C (Kd.int .i64) w A1 l1.length l1) (hc1 : l1.length ≤ c1) (h : laws_eqIntS.f k l0 l1 = some r) :
  Calls Try.prog 31 #[.slice A0 l0.length c0, .slice A1 l1.length c1] w fun e w' => e = .returned (.bool r) ∧ Drawn0 w w' := by
 have HR0 := am' hr0
 have HC0 := am' hc0
 clear hr0 hc0; have HR1 := am' hr1
 have HC1 := am' hc1
 clear hr1 hc1; have H : (if (l0.length : Int) = (l1.length : Int) then (laws_eqIntS.l0 k l0 l1 0) else (some false)) = some r := h
 clear h; by_cases c3 : (l0.length : Int) = (l1.length : Int)
 ·
  rw [if_pos c3] at H; have c3b0 : ((l0.length : Int) == (l1.length : Int)) = true := beq_iff_eq.mpr c3
  have c3b1 : ((l0.length : Int) != (l1.length : Int)) = false := bne_eq_false_iff_eq.mpr c3
  have c3b2 : (l0.length == l1.length) = true := by first | simpa using c3 | (simp at c3 ⊢; omega)
  clear c3; have H' := am' H
  clear H; go_enter Try.func31, Try.ntmps31
  go_wp2
  repeat (go_quiet (fail); try go_wp2)
  go_loopg [5] k (fun kq v5 w' => ∃ (x5_1 : Int), v5 = .int .i64 x5_1 ∧ Aside0 (laws_eqIntS.l0 kq l0 l1 x5_1 = some r) ∧ Aside0 (kq ≤ k) ∧ Drawn0 w w')
  case atStart => exact ⟨(0), (by first | rfl | (simp; done) | (simp [*]; done)), H', ⟨Nat.le_refl _⟩, by repeat (first | exact Drawn0.refl _ | apply Drawn0.step)⟩
  case round =>
   clear H'; try clear c1
   try clear p2
   try clear c3
   try clear c3b0
   try clear c3b1
   try clear c3b2
   obtain ⟨x5_1, rfl, HA, HK1, ⟨m1, rfl⟩⟩ := hrel
   cases gk with
   | zero => exact absurd HA.out (by simp [laws_eqIntS.l0])
   | succ k1 =>
    have H := HA.out
    clear HA; simp only [laws_eqIntS.l0] at H
    by_cases c4 : x5_1 < (l0.length : Int)
    ·
     rw [if_pos c4] at H; have c4b0 : decide (x5_1 < (l0.length : Int)) = true := decide_eq_true c4
     clear c4; by_cases c5 : 0 ≤ x5_1
     ·
      rw [if_pos c5] at H; have c5b0 : decide (0 ≤ x5_1) = true := decide_eq_true c5
      clear c5; by_cases c6 : x5_1 < (l1.length : Int)
      ·
       rw [if_pos c6] at H; have c6b0 : decide (x5_1 < (l1.length : Int)) = true := decide_eq_true c6
       clear c6; by_cases c7 : (rd l0 x5_1) = (rd l1 x5_1)
       ·
        rw [if_pos c7] at H; have c7b0 : ((rd l0 x5_1) == (rd l1 x5_1)) = true := beq_iff_eq.mpr c7
        have c7b1 : ((rd l0 x5_1) != (rd l1 x5_1)) = false := bne_eq_false_iff_eq.mpr c7
        clear c7; have H' := am' H
        clear H; have p268 : 0 ≤ (x5_1 : Int) := of_decide_eq_true (by first | (with_reducible assumption) | assumption)
        have q268 : x5_1 < (l0.length : Int) := of_decide_eq_true (by first | (with_reducible assumption) | assumption)
        obtain ⟨ad268, e268, hx268_0⟩ := Kd.at_int HR0.out x5_1 p268 q268
        cases e268
        replace p268 := eq_true p268
        replace q268 := eq_true q268
        have p269 : 0 ≤ (x5_1 : Int) := of_decide_eq_true (by first | (with_reducible assumption) | assumption)
        have q269 : x5_1 < (l1.length : Int) := of_decide_eq_true (by first | (with_reducible assumption) | assumption)
        obtain ⟨ad269, e269, hx269_0⟩ := Kd.at_int HR1.out x5_1 p269 q269
        cases e269
        replace p269 := eq_true p269
        replace q269 := eq_true q269
        go_wp2
        repeat (go_quiet (fail); try go_wp2)
        go_roundg k1
        case measure => have := HK1.out; omega
        case rel => exact ⟨(wrap64 (x5_1 + 1)), (by first | rfl | (simp; done) | (simp [*]; done)), H', ⟨by have := HK1.out; omega⟩, by repeat (first | exact Drawn0.refl _ | apply Drawn0.step)⟩
       ·
        rw [if_neg c7] at H; have c7b0 : ((rd l0 x5_1) == (rd l1 x5_1)) = false := beq_eq_false_iff_ne.mpr c7
        have c7b1 : ((rd l0 x5_1) != (rd l1 x5_1)) = true := bne_iff_ne.mpr c7
        obtain rfl := Option.some.inj H
        have p268 : 0 ≤ (x5_1 : Int) := of_decide_eq_true (by first | (with_reducible assumption) | assumption)
        have q268 : x5_1 < (l0.length : Int) := of_decide_eq_true (by first | (with_reducible assumption) | assumption)
        obtain ⟨ad268, e268, hx268_0⟩ := Kd.at_int HR0.out x5_1 p268 q268
        cases e268
        replace p268 := eq_true p268
        replace q268 := eq_true q268
        have p269 : 0 ≤ (x5_1 : Int) := of_decide_eq_true (by first | (with_reducible assumption) | assumption)
        have q269 : x5_1 < (l1.length : Int) := of_decide_eq_true (by first | (with_reducible assumption) | assumption)
        obtain ⟨ad269, e269, hx269_0⟩ := Kd.at_int HR1.out x5_1 p269 q269
        cases e269
        replace p269 := eq_true p269
        replace q269 := eq_true q269
        go_wp2
        repeat (go_quiet (fail); try go_wp2)
        go_ret
        exact ⟨by first | rfl | (simp; done) | (simp [*]; done), by repeat (first | exact Drawn0.refl _ | apply Drawn0.step)⟩
      ·
       rw [if_neg c6] at H; exact absurd H (by simp)
     ·
      rw [if_neg c5] at H; exact absurd H (by simp)
    ·
     rw [if_neg c4] at H; have c4b0 : decide (x5_1 < (l0.length : Int)) = false := decide_eq_false c4
     clear c4; obtain rfl := Option.some.inj H
     go_wp2
     repeat (go_quiet (fail); try go_wp2)
     go_ret
     exact ⟨by first | rfl | (simp; done) | (simp [*]; done), by repeat (first | exact Drawn0.refl _ | apply Drawn0.step)⟩
 ·
  rw [if_neg c3] at H; have c3b0 : ((l0.length : Int) == (l1.length : Int)) = false := beq_eq_false_iff_ne.mpr c3
  have c3b1 : ((l0.length : Int) != (l1.length : Int)) = true := bne_iff_ne.mpr c3
  have c3b2 : (l0.length == l1.length) = false := by first | simpa using c3 | (simp at c3 ⊢; omega)
  obtain rfl := Option.some.inj H
  go_enter Try.func31, Try.ntmps31
  go_wp2
  repeat (go_quiet (fail); try go_wp2)
  go_ret
  exact ⟨by first | rfl | (simp; done) | (simp [*]; done), by repeat (first | exact Drawn0.refl _ | apply Drawn0.step)⟩
end Go.Proofs.Ytamljjfhkolflaa.C7
