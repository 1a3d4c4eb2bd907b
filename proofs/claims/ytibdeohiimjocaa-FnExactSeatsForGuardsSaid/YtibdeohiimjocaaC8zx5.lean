import Derived.Test.YtibdeohiimjocaaC8zx0
import Derived.Test.YtibdeohiimjocaaC8zx3
import Derived.Test.YtibdeohiimjocaaC8zx4
import Derived.Test.YtibdeohiimjocaaC8zAl
namespace Go.Proofs.Ytibdeohiimjocaa.C8
open Go.RowKit Go.Proofs.YtibdeohiimjocaaW.PrintWords Go.Proofs.YtibdeohiimjocaaW.PrintLast Go.Proofs.YtibdeohiimjocaaW.PrintMore Go.Proofs.Ytibdeohiimjocaa.H
attribute [local go_sem] max2_int min2_int max_two min_two max_three min_three max_four min_four
set_option linter.unusedVariables false
set_option linter.unusedSimpArgs false
theorem nx {k : Nat} (h : k < 9223372036854775807) : Value.int .i64 (wrap64 ((k : Int) + 1)) = Value.int .i64 ((k + 1 : Nat) : Int) := by rw [wr_id (by omega) (by omega)]; rfl
theorem nx2 {k : Nat} (h : k < 9223372036854775807) : Value.int .i64 (IntKind.i64.wrap ((k : Int) + 1)) = Value.int .i64 ((k + 1 : Nat) : Int) := by rw [i64_w]; exact nx h
theorem R_two {w : World} {b base : Nat} {x y : Int} {e : Nat} (h : w.heap[b]? = some (.cells #[.int .i64 x, .int .i64 y] e (0, 0))) (hB : base ≤ b) : (Kd.int .i64).R e w base (fun k => k = b) (.slice (some ⟨b, 0, none⟩) 2 2) [x, y] := by
 refine Kd.R_of_own ?_ (fun k hk => by have := Option.some.inj (show some _ = some _ from hk); exact this.symm)
 exact ⟨by simp [encs], .inr ⟨b, 2, _, rfl, hB, h, Nat.le_refl _, by decide, by simp, by simp [encs]⟩⟩
def fineB (x y : Int) : Bool := decide (x = 0) || decide (x ≥ y)
def inI (x lo hi : Int) : Bool := decide (lo ≤ x) && decide (x ≤ hi)
def gC (boat a x : Int) : Int := if boat = 1 then a - x else a + x
def gOk (G C c d x y : Int) : Bool := decide (0 < x + y) && (inI c 0 G && (inI d 0 C && (fineB x y && (fineB c d && fineB (G - c) (C - d)))))
def gEdge (G C a b boat x y : Int) : List Edg :=
 if gOk G C (gC boat a x) (gC boat b y) x y = true then [(2 * (gC boat a x * 9 + gC boat b y) + 1 - boat, 1, [x, y])] else []
def gYs (G C a b boat x : Int) : Nat → Int → List Edg
 | 0, _ => []
 | n + 1, y => gEdge G C a b boat x y ++ gYs G C a b boat x n (y + 1)
def gXs (G C S a b boat : Int) : Nat → Int → List Edg
 | 0, _ => []
 | n + 1, x => gYs G C a b boat x (S + 1 - x).toNat 0 ++ gXs G C S a b boat n (x + 1)
def gOut (G C S s : Int) : Option (List Edg) := if 0 ≤ s ∧ s < 162 then some (gXs G C S (s / 2 / 9) (s / 2 % 9) (s % 2) (S + 1).toNat 0) else none
theorem gC_val {bt a x : Int} (ha : 0 ≤ a ∧ a ≤ 8) (hx : 0 ≤ x ∧ x ≤ 4) : (bt = 0 → wrap64 (a + x) = gC bt a x) ∧ (bt = 1 → wrap64 (a - x) = gC bt a x) ∧ -4 ≤ gC bt a x ∧ gC bt a x ≤ 12 := by
 unfold gC
 refine ⟨fun h => ?_, fun h => ?_, ?_⟩
 ·
  rw [if_neg (by omega)]; exact wr_id (by omega) (by omega)
 ·
  rw [if_pos h]; exact wr_id (by omega) (by omega)
 ·
  split <;> omega
theorem gTo_val {bt c d : Int} (hbt : bt = 0 ∨ bt = 1) (hc : -4 ≤ c ∧ c ≤ 12) (hd : -4 ≤ d ∧ d ≤ 12) : ∃ t1 t2 t3 t4 tv, wrap64 (c * 9) = t1 ∧ wrap64 (t1 + d) = t2 ∧ wrap64 (2 * t2) = t3 ∧ wrap64 (t3 + 1) = t4 ∧ (bt = 0 → wrap64 t4 = tv) ∧ (bt = 1 → wrap64 (t4 - 1) = tv) ∧ tv = 2 * (c * 9 + d) + 1 - bt := by
 refine ⟨c * 9, c * 9 + d, 2 * (c * 9 + d), 2 * (c * 9 + d) + 1, _, wr_id (by omega) (by omega), wr_id (by omega) (by omega), wr_id (by omega) (by omega), wr_id (by omega) (by omega), fun h => ?_, fun h => ?_, rfl⟩
 ·
  rw [wr_id (by omega) (by omega)]; omega
 ·
  rw [wr_id (by omega) (by omega)]; omega
theorem in_val (x lo hi : Int) : impl_in.f x lo hi = some (inI x lo hi) := by
 unfold impl_in.f inI
 by_cases h : lo ≤ x
 ·
  rw [if_pos h, decide_eq_true h]; rfl
 ·
  rw [if_neg h, decide_eq_false h]; rfl
theorem isFine_val (x y : Int) : impl_isFine.f x y = some (fineB x y) := by
 unfold impl_isFine.f fineB
 by_cases h : x = 0
 ·
  rw [if_pos h, decide_eq_true h]; rfl
 ·
  rw [if_neg h, decide_eq_false h]; rfl
theorem bothFine_val (G C S c d : Int) (hc : -100 ≤ G - c ∧ G - c ≤ 100) (hd : -100 ≤ C - d ∧ C - d ≤ 100) : impl_guarded_bothFine.f G C S c d = some (fineB c d && fineB (G - c) (C - d)) := by
 unfold impl_guarded_bothFine.f
 rw [isFine_val, Option.bind_some, wr_id (by omega) (by omega), wr_id (by omega) (by omega), isFine_val, Option.bind_some]
 cases fineB c d <;> simp
set_option maxHeartbeats 8000000 in
set_option maxRecDepth 100000 in
theorem guarded_out (G C : Int) (S : Nat) (hG : 0 ≤ G ∧ G ≤ 8) (hC : 0 ≤ C ∧ C ≤ 8) (hS : 1 ≤ S ∧ S ≤ 4) (W0 : World) (pg : Nat) (hb : W0.heap[pg]? = some (.cells #[.int .i64 G, .int .i64 C, .int .i64 (S : Int)] 71 (0, 0))) : OutOk 129 #[.pointer (some ⟨pg, 0, none⟩)] (gOut G C (S : Int)) W0 := by
 intro W hW s es hs; have hu := Try.underlying71
 have hue := Try.underlying109
 have hinfoE := am' (show (Try.prog.info? 109).map (fun i => (i.zero, i.size, i.bytes)) = some (some (.agg #[.int .i64 0, .int .i64 0, .slice none 0 0]), 3, 40) by kernel_rfl)
 unfold gOut at hs
 by_cases h : 0 ≤ s ∧ s < 162
 ·
  rw [if_pos h] at hs; have HSS := am' (Option.some.inj hs)
  have HBX := am' (blk_below hb hW)
  have HG := am' hG
  have HC := am' hC
  have HSN := am' hS
  clear hs hb hW hG hC hS; have hpl := blk_lt HBX.out
  have HPL := am' hpl
  clear hpl; go_enter Try.func129, Try.ntmps129
  go_wp2_with fail
  have ha : 0 ≤ s / 2 / 9 ∧ s / 2 / 9 ≤ 8 := by omega
  have hb : 0 ≤ s / 2 % 9 ∧ s / 2 % 9 ≤ 8 := by omega
  have hbt : s % 2 = 0 ∨ s % 2 = 1 := by omega
  have HH := am' h
  clear h; generalize s / 2 / 9 = a at ha HSS ⊢
  generalize s / 2 % 9 = b at hb HSS ⊢
  generalize s % 2 = bt at hbt HSS ⊢
  have HA := am' ha
  have HB := am' hb
  clear ha hb; have HW := am' (ba' (Below.refl W.heap.size W) (.cells #[] 109))
  have HS0 := am' (show Kd.S EdgK 109 (W.alloc (.cells #[] 109)) W.heap.size (fun _ => True) (.slice (some ⟨W.heap.size, 0, none⟩) 0 0) [] from S_empty EdgK (heap_alloc_new W _) (Nat.le_refl _) trivial)
  have HBX1 := am' (blk_below HBX.out HW.out)
  generalize W.alloc (.cells #[] 109) = W1 at HW HS0 HBX1 ⊢
  have HSN1 : (((S : Int) + 1).toNat) = S + 1 := by omega
  rw [HSN1] at HSS
  clear HSN1; rcases hbt with rfl | rfl
  ·
   go_loopg [7, 8] (S + 1) (fun gg v7 v8 wr => ∃ (x : Nat) (acc : List Edg) (Ao : Option Addr) (co : Nat), v7 = .slice Ao acc.length co ∧ v8 = .int .i64 (x : Int) ∧ Aside0 (x ≤ S + 1) ∧ Aside0 (S + 1 - x ≤ gg) ∧ Aside0 (acc ++ gXs G C (S : Int) a b 0  (S + 1 - x) (x : Int) = es) ∧ Aside0 (acc.length ≤ 5 * x) ∧ Aside0 (Kd.S EdgK 109 wr W.heap.size (fun _ => True) (.slice Ao acc.length co) acc) ∧ Aside0 (Below W.heap.size W wr))
   case atStart => exact ⟨0, [], _, _, rfl, rfl, ⟨Nat.zero_le _⟩, ⟨Nat.le_refl _⟩, HSS, ⟨Nat.zero_le _⟩, HS0, HW⟩
   case round =>
    obtain ⟨x, acc, Ao, co, rfl, rfl, HX, HGG, HE, HLA, HSA, HWR⟩ := hrel
    clear HS0 HSS HBX1; have HBX2 := am' (blk_below HBX.out HWR.out)
    have xs : wr.cell? ⟨pg, 2, none⟩ = some (.int .i64 (S : Int)) := (blk_cell HBX2.out 2).trans rfl
    by_cases hx : x ≤ S
    ·
     have hxz : (x : Int) ≤ (S : Int) := by omega
     have hxzd := decide_eq_true hxz
     have hE := HE.out
     rw [show S + 1 - x = (S - x) + 1 by omega, gXs, show (((S : Int) + 1 - (x : Int)).toNat) = S + 1 - x by omega] at hE
     have HE2 := am' hE
     have HXL := am' hx
     clear hE HE hx; go_wp2
     go_loopg [7, 9] (S + 1 - x) (fun gg v7 v9 wr => ∃ (y : Nat) (acc : List Edg) (Ao : Option Addr) (co : Nat), v7 = .slice Ao acc.length co ∧ v9 = .int .i64 (y : Int) ∧ Aside0 (y ≤ S + 1 - x) ∧ Aside0 (S + 1 - x - y ≤ gg) ∧ Aside0 (acc ++ (gYs G C a b 0  (x : Int) (S + 1 - x - y) (y : Int) ++ gXs G C (S : Int) a b 0  (S - x) ((x : Int) + 1)) = es) ∧ Aside0 (acc.length ≤ 5 * x + y) ∧ Aside0 (Kd.S EdgK 109 wr W.heap.size (fun _ => True) (.slice Ao acc.length co) acc) ∧ Aside0 (Below W.heap.size W wr))
     case atStart => exact ⟨0, acc, _, _, rfl, rfl, ⟨Nat.zero_le _⟩, ⟨by omega⟩, HE2, HLA, HSA, HWR⟩
     case round =>
      clear HE2 HLA HSA HWR xs HBX2; obtain ⟨y, acc, Ao, co, rfl, rfl, HY, HGY, HE, HLA, HSA, HWR⟩ := hrel
      have HBX2 := am' (blk_below HBX.out HWR.out)
      have xs : wr.cell? ⟨pg, 2, none⟩ = some (.int .i64 (S : Int)) := (blk_cell HBX2.out 2).trans rfl
      have hxy : wrap64 ((x : Int) + (y : Int)) = (x : Int) + (y : Int) := wr_id (by omega) (by have := HXL.out; have := HY.out; have := HSN.out; omega)
      by_cases hy : x + y ≤ S
      ·
       have hyz : (x : Int) + (y : Int) ≤ (S : Int) := by omega
       have hyzd := decide_eq_true hyz
       have HYL := am' hy
       have hE := HE.out
       rw [show S + 1 - x - y = (S + 1 - x - (y + 1)) + 1 by omega, gYs, gEdge] at hE
       have hxb : 0 ≤ (x : Int) ∧ (x : Int) ≤ 4 := by have := HSN.out; omega
       have hyb : 0 ≤ (y : Int) ∧ (y : Int) ≤ 4 := by have := HSN.out; omega
       have HCV := gC_val (bt := 0) HA.out hxb
       have HDV := gC_val (bt := 0) HB.out hyb
       generalize hgc : gC 0  a (x : Int) = c at hE HCV
       generalize hgd : gC 0  b (y : Int) = d at hE HDV
       clear hgc hgd hy hyz HE; have hp1 := HCV.1 rfl
       have hp2 := HDV.1 rfl
       obtain ⟨t1, t2, t3, t4, tv, hw1, hw2, hw3, hw4, hw5, hw6, htv⟩ := gTo_val (bt := 0) (by omega) HCV.2.2 HDV.2.2
       rw [← htv] at hE
       have hwv := hw5 rfl
       have HCB := am' HCV.2.2
       have HDB := am' HDV.2.2
       have HI1 := am' (in_val c 0 G)
       have HI2 := am' (in_val d 0 C)
       have HI3 := am' (isFine_val (x : Int) (y : Int))
       have HI4 := am' (bothFine_val G C (S : Int) c d (by have := HG.out; omega) (by have := HC.out; omega))
       have hgo : gOk G C c d (x : Int) (y : Int) = (decide (0 < (x : Int) + (y : Int)) && (inI c 0 G && (inI d 0 C && (fineB (x : Int) (y : Int) && (fineB c d && fineB (G - c) (C - d)))))) := rfl
       rw [hgo] at hE
       have x0 : wr.cell? ⟨pg, 0, none⟩ = some (.int .i64 G) := (blk_cell HBX2.out 0).trans rfl
       have x1 : wr.cell? ⟨pg, 1, none⟩ = some (.int .i64 C) := (blk_cell HBX2.out 1).trans rfl
       clear HCV HDV hw5 hw6 htv hgo hxb hyb; generalize (fineB c d && fineB (G - c) (C - d)) = r4 at HI4 hE
       generalize inI c 0 G = r1 at HI1 hE
       generalize inI d 0 C = r2 at HI2 hE
       generalize fineB (x : Int) (y : Int) = r3 at HI3 hE
       by_cases hp : 0 < (x : Int) + (y : Int)
       ·
        have hpd := decide_eq_true hp
        rw [hpd, Bool.true_and] at hE
        cases r1 with
        | false =>
         rw [Bool.false_and, if_neg (by decide), List.nil_append] at hE
         have HE := am' hE
         clear hE; go_wp2_with (first | (go_at_call 72; (with_reducible refine (impl_in.calls c 0 G _ _ HI1.out).mono ?_); rintro e w' ⟨rfl, ⟨nd, rfl⟩⟩) | (go_at_call 72; (with_reducible refine (impl_in.calls d 0 C _ _ HI2.out).mono ?_); rintro e w' ⟨rfl, ⟨nd, rfl⟩⟩) | (go_at_call 109; (with_reducible refine (impl_isFine.calls (x : Int) (y : Int) _ _ HI3.out).mono ?_); rintro e w' ⟨rfl, ⟨nd, rfl⟩⟩) | (go_at_call 69; (with_reducible refine (impl_guarded_bothFine.calls G C (S : Int) c d _ _ HI4.out).mono ?_); rintro e w2 ⟨rfl, hb2⟩; have HB2 := am' (show Below wr.heap.size wr w2 from below_step (bd' (Below.refl _ _) _) hb2); clear hb2))
         go_roundg (S + 1 - x - (y + 1))
         case measure => have h1 := HGY.out; have h2 := HYL.out; omega
         case rel => exact ⟨y + 1, acc, Ao, co, rfl, by have h2 := HYL.out; have h3 := HSN.out; first | exact nx (by omega) | exact nx2 (by omega) | exact rfl, ⟨by have h2 := HYL.out; omega⟩, ⟨Nat.le_refl _⟩, HE, ⟨by have h3 := HLA.out; omega⟩, ⟨by first | exact Kd.S_below HSA.out HB2.out | exact Kd.S_below HSA.out (bd' (Below.refl _ _) _) | exact Kd.S_below HSA.out (bd' (bd' (Below.refl _ _) _) _) | exact HSA.out⟩, ⟨by first | exact below_step HWR.out HB2.out | exact bd' HWR.out _ | exact bd' (bd' HWR.out _) _ | exact HWR.out⟩⟩
        | true =>
        rw [Bool.true_and] at hE
        cases r2 with
        | false =>
         rw [Bool.false_and, if_neg (by decide), List.nil_append] at hE
         have HE := am' hE
         clear hE; go_wp2_with (first | (go_at_call 72; (with_reducible refine (impl_in.calls c 0 G _ _ HI1.out).mono ?_); rintro e w' ⟨rfl, ⟨nd, rfl⟩⟩) | (go_at_call 72; (with_reducible refine (impl_in.calls d 0 C _ _ HI2.out).mono ?_); rintro e w' ⟨rfl, ⟨nd, rfl⟩⟩) | (go_at_call 109; (with_reducible refine (impl_isFine.calls (x : Int) (y : Int) _ _ HI3.out).mono ?_); rintro e w' ⟨rfl, ⟨nd, rfl⟩⟩) | (go_at_call 69; (with_reducible refine (impl_guarded_bothFine.calls G C (S : Int) c d _ _ HI4.out).mono ?_); rintro e w2 ⟨rfl, hb2⟩; have HB2 := am' (show Below wr.heap.size wr w2 from below_step (bd' (Below.refl _ _) _) hb2); clear hb2))
         go_roundg (S + 1 - x - (y + 1))
         case measure => have h1 := HGY.out; have h2 := HYL.out; omega
         case rel => exact ⟨y + 1, acc, Ao, co, rfl, by have h2 := HYL.out; have h3 := HSN.out; first | exact nx (by omega) | exact nx2 (by omega) | exact rfl, ⟨by have h2 := HYL.out; omega⟩, ⟨Nat.le_refl _⟩, HE, ⟨by have h3 := HLA.out; omega⟩, ⟨by first | exact Kd.S_below HSA.out HB2.out | exact Kd.S_below HSA.out (bd' (Below.refl _ _) _) | exact Kd.S_below HSA.out (bd' (bd' (Below.refl _ _) _) _) | exact HSA.out⟩, ⟨by first | exact below_step HWR.out HB2.out | exact bd' HWR.out _ | exact bd' (bd' HWR.out _) _ | exact HWR.out⟩⟩
        | true =>
        rw [Bool.true_and] at hE
        cases r3 with
        | false =>
         rw [Bool.false_and, if_neg (by decide), List.nil_append] at hE
         have HE := am' hE
         clear hE; go_wp2_with (first | (go_at_call 72; (with_reducible refine (impl_in.calls c 0 G _ _ HI1.out).mono ?_); rintro e w' ⟨rfl, ⟨nd, rfl⟩⟩) | (go_at_call 72; (with_reducible refine (impl_in.calls d 0 C _ _ HI2.out).mono ?_); rintro e w' ⟨rfl, ⟨nd, rfl⟩⟩) | (go_at_call 109; (with_reducible refine (impl_isFine.calls (x : Int) (y : Int) _ _ HI3.out).mono ?_); rintro e w' ⟨rfl, ⟨nd, rfl⟩⟩) | (go_at_call 69; (with_reducible refine (impl_guarded_bothFine.calls G C (S : Int) c d _ _ HI4.out).mono ?_); rintro e w2 ⟨rfl, hb2⟩; have HB2 := am' (show Below wr.heap.size wr w2 from below_step (bd' (Below.refl _ _) _) hb2); clear hb2))
         go_roundg (S + 1 - x - (y + 1))
         case measure => have h1 := HGY.out; have h2 := HYL.out; omega
         case rel => exact ⟨y + 1, acc, Ao, co, rfl, by have h2 := HYL.out; have h3 := HSN.out; first | exact nx (by omega) | exact nx2 (by omega) | exact rfl, ⟨by have h2 := HYL.out; omega⟩, ⟨Nat.le_refl _⟩, HE, ⟨by have h3 := HLA.out; omega⟩, ⟨by first | exact Kd.S_below HSA.out HB2.out | exact Kd.S_below HSA.out (bd' (Below.refl _ _) _) | exact Kd.S_below HSA.out (bd' (bd' (Below.refl _ _) _) _) | exact HSA.out⟩, ⟨by first | exact below_step HWR.out HB2.out | exact bd' HWR.out _ | exact bd' (bd' HWR.out _) _ | exact HWR.out⟩⟩
        | true =>
        rw [Bool.true_and] at hE
        cases r4 with
        | false =>
         rw [if_neg (by decide), List.nil_append] at hE
         have HE := am' hE
         clear hE; go_wp2_with (first | (go_at_call 72; (with_reducible refine (impl_in.calls c 0 G _ _ HI1.out).mono ?_); rintro e w' ⟨rfl, ⟨nd, rfl⟩⟩) | (go_at_call 72; (with_reducible refine (impl_in.calls d 0 C _ _ HI2.out).mono ?_); rintro e w' ⟨rfl, ⟨nd, rfl⟩⟩) | (go_at_call 109; (with_reducible refine (impl_isFine.calls (x : Int) (y : Int) _ _ HI3.out).mono ?_); rintro e w' ⟨rfl, ⟨nd, rfl⟩⟩) | (go_at_call 69; (with_reducible refine (impl_guarded_bothFine.calls G C (S : Int) c d _ _ HI4.out).mono ?_); rintro e w2 ⟨rfl, hb2⟩; have HB2 := am' (show Below wr.heap.size wr w2 from below_step (bd' (Below.refl _ _) _) hb2); clear hb2))
         go_roundg (S + 1 - x - (y + 1))
         case measure => have h1 := HGY.out; have h2 := HYL.out; omega
         case rel => exact ⟨y + 1, acc, Ao, co, rfl, by have h2 := HYL.out; have h3 := HSN.out; first | exact nx (by omega) | exact nx2 (by omega) | exact rfl, ⟨by have h2 := HYL.out; omega⟩, ⟨Nat.le_refl _⟩, HE, ⟨by have h3 := HLA.out; omega⟩, ⟨by first | exact Kd.S_below HSA.out HB2.out | exact Kd.S_below HSA.out (bd' (Below.refl _ _) _) | exact Kd.S_below HSA.out (bd' (bd' (Below.refl _ _) _) _) | exact HSA.out⟩, ⟨by first | exact below_step HWR.out HB2.out | exact bd' HWR.out _ | exact bd' (bd' HWR.out _) _ | exact HWR.out⟩⟩
        | true =>
         rw [if_pos rfl] at hE; have HE := am' hE
         clear hE; go_wp2_with (first | (go_at_call 72; (with_reducible refine (impl_in.calls c 0 G _ _ HI1.out).mono ?_); rintro e w' ⟨rfl, ⟨nd, rfl⟩⟩) | (go_at_call 72; (with_reducible refine (impl_in.calls d 0 C _ _ HI2.out).mono ?_); rintro e w' ⟨rfl, ⟨nd, rfl⟩⟩) | (go_at_call 109; (with_reducible refine (impl_isFine.calls (x : Int) (y : Int) _ _ HI3.out).mono ?_); rintro e w' ⟨rfl, ⟨nd, rfl⟩⟩) | (go_at_call 69; (with_reducible refine (impl_guarded_bothFine.calls G C (S : Int) c d _ _ HI4.out).mono ?_); rintro e w2 ⟨rfl, hb2⟩; have HB2 := am' (show Below wr.heap.size wr w2 from below_step (bd' (Below.refl _ _) _) hb2); clear hb2) | ((with_reducible refine gate_builtin (b := .append) (xs := #[.tmp 76, .tmp 89]) rfl ?_); at_builtin; refine Kd.S_append EdgK (w0 := W) W.heap.size rfl (.tmp 76) (.tmp 89) 110 109 (.agg #[.int .i64 0, .int .i64 0, .slice none 0 0]) 40 rfl Try.underlying110 hinfoE.out rfl (by decide) (by omega) (.slice Ao acc.length co) acc (tv, 1, [(x : Int), (y : Int)]) [.int .i64 tv, .int .i64 1, .slice (some ⟨w2.heap.size, 0, none⟩) 2 2] (fun _ => True) (fun k => k = w2.heap.size) rfl (by rw [World.size_alloc]; rfl) ?aP ?aK (fun _ _ => trivial) ?aO ?aB ?aS ?aL ?_; (case aP => exact ⟨[.int .i64 tv], _, rfl, rfl, [.int .i64 1], _, rfl, rfl, _, rfl, R_two (heap_alloc_new w2 _) (Nat.le_trans HWR.out.size HB2.out.size)⟩); (case aK => exact fun k hk => ⟨trivial, fun q => by have h1 := Kd.S_lt HSA.out k q.symm; have h2 := HB2.out.size; omega⟩); (case aO => exact Kd.S_mono (Kd.S_alloc (Kd.S_old HSA.out HB2.out) _) (fun k hk => ⟨trivial, fun q => by have h2 := HB2.out.size; omega⟩)); (case aB => exact ba' (below_step HWR.out HB2.out) _); (case aS => rw [World.size_alloc]; have h1 := HWR.out.size; have h2 := HB2.out.size; omega); (case aL => have h1 := HLA.out; have h2 := HSN.out; have h3 := HXL.out; have h4 := HYL.out; omega); intro v1 w1 ho hb hg hat; obtain ⟨A1, c1, e1⟩ := Kd.S_slice ho; rw [List.length_append, List.length_singleton] at e1; subst e1; have HO1 := am' (show Kd.S EdgK 109 w1 W.heap.size (fun _ => True) (.slice A1 (acc ++ [(tv, 1, [(x : Int), (y : Int)])]).length c1) (acc ++ [(tv, 1, [(x : Int), (y : Int)])]) by rw [List.length_append, List.length_singleton]; exact ho); have HB1 := am' hb; clear ho hb hg hat))
         go_roundg (S + 1 - x - (y + 1))
         case measure => have h1 := HGY.out; have h2 := HYL.out; omega
         case rel =>
          refine ⟨y + 1, acc ++ [(tv, 1, [(x : Int), (y : Int)])], A1, c1, by rw [List.length_append, List.length_singleton], by have h2 := HYL.out; have h3 := HSN.out; first | exact nx (by omega) | exact nx2 (by omega) | exact rfl, ⟨by have h2 := HYL.out; omega⟩, ⟨Nat.le_refl _⟩, ⟨?_⟩, ⟨?_⟩, HO1, HB1⟩
          ·
           have h3 := HE.out; rw [List.append_assoc] at h3; rw [List.append_assoc]; exact h3
          ·
           have h3 := HLA.out; rw [List.length_append, List.length_singleton]; omega
       ·
        have hpd := decide_eq_false hp
        rw [hpd, Bool.false_and] at hE
        rw [if_neg (by decide), List.nil_append] at hE
        have HE := am' hE
        clear hE; go_wp2_with (first | (go_at_call 72; (with_reducible refine (impl_in.calls c 0 G _ _ HI1.out).mono ?_); rintro e w' ⟨rfl, ⟨nd, rfl⟩⟩) | (go_at_call 72; (with_reducible refine (impl_in.calls d 0 C _ _ HI2.out).mono ?_); rintro e w' ⟨rfl, ⟨nd, rfl⟩⟩) | (go_at_call 109; (with_reducible refine (impl_isFine.calls (x : Int) (y : Int) _ _ HI3.out).mono ?_); rintro e w' ⟨rfl, ⟨nd, rfl⟩⟩) | (go_at_call 69; (with_reducible refine (impl_guarded_bothFine.calls G C (S : Int) c d _ _ HI4.out).mono ?_); rintro e w2 ⟨rfl, hb2⟩; have HB2 := am' (show Below wr.heap.size wr w2 from below_step (bd' (Below.refl _ _) _) hb2); clear hb2))
        go_roundg (S + 1 - x - (y + 1))
        case measure => have h1 := HGY.out; have h2 := HYL.out; omega
        case rel => exact ⟨y + 1, acc, Ao, co, rfl, by have h2 := HYL.out; have h3 := HSN.out; first | exact nx (by omega) | exact nx2 (by omega) | exact rfl, ⟨by have h2 := HYL.out; omega⟩, ⟨Nat.le_refl _⟩, HE, ⟨by have h3 := HLA.out; omega⟩, ⟨by first | exact Kd.S_below HSA.out HB2.out | exact Kd.S_below HSA.out (bd' (Below.refl _ _) _) | exact Kd.S_below HSA.out (bd' (bd' (Below.refl _ _) _) _) | exact HSA.out⟩, ⟨by first | exact below_step HWR.out HB2.out | exact bd' HWR.out _ | exact bd' (bd' HWR.out _) _ | exact HWR.out⟩⟩
      ·
       have hyz : ¬ (x : Int) + (y : Int) ≤ (S : Int) := by omega
       have hyzd := decide_eq_false hyz
       have hE := HE.out
       rw [show S + 1 - x - y = 0 by omega, gYs, List.nil_append] at hE
       have HE := am' hE
       clear hE; go_wp2
       go_roundg (S + 1 - (x + 1))
       case measure => have h1 := HGG.out; have h2 := HXL.out; omega
       case rel =>
        refine ⟨x + 1, acc, Ao, co, rfl, by have h2 := HXL.out; have h3 := HSN.out; first | exact nx (by omega) | exact nx2 (by omega) | exact rfl, ⟨by have h2 := HXL.out; omega⟩, ⟨Nat.le_refl _⟩, ⟨?_⟩, ⟨?_⟩, HSA, HWR⟩
        ·
         rw [show S + 1 - (x + 1) = S - x by omega]; exact HE.out
        ·
         have h3 := HLA.out; have h4 := HY.out; have h5 := HSN.out; omega
    ·
     have hxz : ¬ (x : Int) ≤ (S : Int) := by omega
     have hxzd := decide_eq_false hxz
     have hE := HE.out
     rw [show S + 1 - x = 0 by omega, gXs, List.append_nil] at hE
     subst hE; go_wp2
     go_ret
     exact ⟨_, rfl, HSA.out, HWR.out⟩
  ·
   go_loopg [7, 8] (S + 1) (fun gg v7 v8 wr => ∃ (x : Nat) (acc : List Edg) (Ao : Option Addr) (co : Nat), v7 = .slice Ao acc.length co ∧ v8 = .int .i64 (x : Int) ∧ Aside0 (x ≤ S + 1) ∧ Aside0 (S + 1 - x ≤ gg) ∧ Aside0 (acc ++ gXs G C (S : Int) a b 1  (S + 1 - x) (x : Int) = es) ∧ Aside0 (acc.length ≤ 5 * x) ∧ Aside0 (Kd.S EdgK 109 wr W.heap.size (fun _ => True) (.slice Ao acc.length co) acc) ∧ Aside0 (Below W.heap.size W wr))
   case atStart => exact ⟨0, [], _, _, rfl, rfl, ⟨Nat.zero_le _⟩, ⟨Nat.le_refl _⟩, HSS, ⟨Nat.zero_le _⟩, HS0, HW⟩
   case round =>
    obtain ⟨x, acc, Ao, co, rfl, rfl, HX, HGG, HE, HLA, HSA, HWR⟩ := hrel
    clear HS0 HSS HBX1; have HBX2 := am' (blk_below HBX.out HWR.out)
    have xs : wr.cell? ⟨pg, 2, none⟩ = some (.int .i64 (S : Int)) := (blk_cell HBX2.out 2).trans rfl
    by_cases hx : x ≤ S
    ·
     have hxz : (x : Int) ≤ (S : Int) := by omega
     have hxzd := decide_eq_true hxz
     have hE := HE.out
     rw [show S + 1 - x = (S - x) + 1 by omega, gXs, show (((S : Int) + 1 - (x : Int)).toNat) = S + 1 - x by omega] at hE
     have HE2 := am' hE
     have HXL := am' hx
     clear hE HE hx; go_wp2
     go_loopg [7, 9] (S + 1 - x) (fun gg v7 v9 wr => ∃ (y : Nat) (acc : List Edg) (Ao : Option Addr) (co : Nat), v7 = .slice Ao acc.length co ∧ v9 = .int .i64 (y : Int) ∧ Aside0 (y ≤ S + 1 - x) ∧ Aside0 (S + 1 - x - y ≤ gg) ∧ Aside0 (acc ++ (gYs G C a b 1  (x : Int) (S + 1 - x - y) (y : Int) ++ gXs G C (S : Int) a b 1  (S - x) ((x : Int) + 1)) = es) ∧ Aside0 (acc.length ≤ 5 * x + y) ∧ Aside0 (Kd.S EdgK 109 wr W.heap.size (fun _ => True) (.slice Ao acc.length co) acc) ∧ Aside0 (Below W.heap.size W wr))
     case atStart => exact ⟨0, acc, _, _, rfl, rfl, ⟨Nat.zero_le _⟩, ⟨by omega⟩, HE2, HLA, HSA, HWR⟩
     case round =>
      clear HE2 HLA HSA HWR xs HBX2; obtain ⟨y, acc, Ao, co, rfl, rfl, HY, HGY, HE, HLA, HSA, HWR⟩ := hrel
      have HBX2 := am' (blk_below HBX.out HWR.out)
      have xs : wr.cell? ⟨pg, 2, none⟩ = some (.int .i64 (S : Int)) := (blk_cell HBX2.out 2).trans rfl
      have hxy : wrap64 ((x : Int) + (y : Int)) = (x : Int) + (y : Int) := wr_id (by omega) (by have := HXL.out; have := HY.out; have := HSN.out; omega)
      by_cases hy : x + y ≤ S
      ·
       have hyz : (x : Int) + (y : Int) ≤ (S : Int) := by omega
       have hyzd := decide_eq_true hyz
       have HYL := am' hy
       have hE := HE.out
       rw [show S + 1 - x - y = (S + 1 - x - (y + 1)) + 1 by omega, gYs, gEdge] at hE
       have hxb : 0 ≤ (x : Int) ∧ (x : Int) ≤ 4 := by have := HSN.out; omega
       have hyb : 0 ≤ (y : Int) ∧ (y : Int) ≤ 4 := by have := HSN.out; omega
       have HCV := gC_val (bt := 1) HA.out hxb
       have HDV := gC_val (bt := 1) HB.out hyb
       generalize hgc : gC 1  a (x : Int) = c at hE HCV
       generalize hgd : gC 1  b (y : Int) = d at hE HDV
       clear hgc hgd hy hyz HE; have hp1 := HCV.2.1 rfl
       have hp2 := HDV.2.1 rfl
       obtain ⟨t1, t2, t3, t4, tv, hw1, hw2, hw3, hw4, hw5, hw6, htv⟩ := gTo_val (bt := 1) (by omega) HCV.2.2 HDV.2.2
       rw [← htv] at hE
       have hwv := hw6 rfl
       have HCB := am' HCV.2.2
       have HDB := am' HDV.2.2
       have HI1 := am' (in_val c 0 G)
       have HI2 := am' (in_val d 0 C)
       have HI3 := am' (isFine_val (x : Int) (y : Int))
       have HI4 := am' (bothFine_val G C (S : Int) c d (by have := HG.out; omega) (by have := HC.out; omega))
       have hgo : gOk G C c d (x : Int) (y : Int) = (decide (0 < (x : Int) + (y : Int)) && (inI c 0 G && (inI d 0 C && (fineB (x : Int) (y : Int) && (fineB c d && fineB (G - c) (C - d)))))) := rfl
       rw [hgo] at hE
       have x0 : wr.cell? ⟨pg, 0, none⟩ = some (.int .i64 G) := (blk_cell HBX2.out 0).trans rfl
       have x1 : wr.cell? ⟨pg, 1, none⟩ = some (.int .i64 C) := (blk_cell HBX2.out 1).trans rfl
       clear HCV HDV hw5 hw6 htv hgo hxb hyb; generalize (fineB c d && fineB (G - c) (C - d)) = r4 at HI4 hE
       generalize inI c 0 G = r1 at HI1 hE
       generalize inI d 0 C = r2 at HI2 hE
       generalize fineB (x : Int) (y : Int) = r3 at HI3 hE
       by_cases hp : 0 < (x : Int) + (y : Int)
       ·
        have hpd := decide_eq_true hp
        rw [hpd, Bool.true_and] at hE
        cases r1 with
        | false =>
         rw [Bool.false_and, if_neg (by decide), List.nil_append] at hE
         have HE := am' hE
         clear hE; go_wp2_with (first | (go_at_call 72; (with_reducible refine (impl_in.calls c 0 G _ _ HI1.out).mono ?_); rintro e w' ⟨rfl, ⟨nd, rfl⟩⟩) | (go_at_call 72; (with_reducible refine (impl_in.calls d 0 C _ _ HI2.out).mono ?_); rintro e w' ⟨rfl, ⟨nd, rfl⟩⟩) | (go_at_call 109; (with_reducible refine (impl_isFine.calls (x : Int) (y : Int) _ _ HI3.out).mono ?_); rintro e w' ⟨rfl, ⟨nd, rfl⟩⟩) | (go_at_call 69; (with_reducible refine (impl_guarded_bothFine.calls G C (S : Int) c d _ _ HI4.out).mono ?_); rintro e w2 ⟨rfl, hb2⟩; have HB2 := am' (show Below wr.heap.size wr w2 from below_step (bd' (Below.refl _ _) _) hb2); clear hb2))
         go_roundg (S + 1 - x - (y + 1))
         case measure => have h1 := HGY.out; have h2 := HYL.out; omega
         case rel => exact ⟨y + 1, acc, Ao, co, rfl, by have h2 := HYL.out; have h3 := HSN.out; first | exact nx (by omega) | exact nx2 (by omega) | exact rfl, ⟨by have h2 := HYL.out; omega⟩, ⟨Nat.le_refl _⟩, HE, ⟨by have h3 := HLA.out; omega⟩, ⟨by first | exact Kd.S_below HSA.out HB2.out | exact Kd.S_below HSA.out (bd' (Below.refl _ _) _) | exact Kd.S_below HSA.out (bd' (bd' (Below.refl _ _) _) _) | exact HSA.out⟩, ⟨by first | exact below_step HWR.out HB2.out | exact bd' HWR.out _ | exact bd' (bd' HWR.out _) _ | exact HWR.out⟩⟩
        | true =>
        rw [Bool.true_and] at hE
        cases r2 with
        | false =>
         rw [Bool.false_and, if_neg (by decide), List.nil_append] at hE
         have HE := am' hE
         clear hE; go_wp2_with (first | (go_at_call 72; (with_reducible refine (impl_in.calls c 0 G _ _ HI1.out).mono ?_); rintro e w' ⟨rfl, ⟨nd, rfl⟩⟩) | (go_at_call 72; (with_reducible refine (impl_in.calls d 0 C _ _ HI2.out).mono ?_); rintro e w' ⟨rfl, ⟨nd, rfl⟩⟩) | (go_at_call 109; (with_reducible refine (impl_isFine.calls (x : Int) (y : Int) _ _ HI3.out).mono ?_); rintro e w' ⟨rfl, ⟨nd, rfl⟩⟩) | (go_at_call 69; (with_reducible refine (impl_guarded_bothFine.calls G C (S : Int) c d _ _ HI4.out).mono ?_); rintro e w2 ⟨rfl, hb2⟩; have HB2 := am' (show Below wr.heap.size wr w2 from below_step (bd' (Below.refl _ _) _) hb2); clear hb2))
         go_roundg (S + 1 - x - (y + 1))
         case measure => have h1 := HGY.out; have h2 := HYL.out; omega
         case rel => exact ⟨y + 1, acc, Ao, co, rfl, by have h2 := HYL.out; have h3 := HSN.out; first | exact nx (by omega) | exact nx2 (by omega) | exact rfl, ⟨by have h2 := HYL.out; omega⟩, ⟨Nat.le_refl _⟩, HE, ⟨by have h3 := HLA.out; omega⟩, ⟨by first | exact Kd.S_below HSA.out HB2.out | exact Kd.S_below HSA.out (bd' (Below.refl _ _) _) | exact Kd.S_below HSA.out (bd' (bd' (Below.refl _ _) _) _) | exact HSA.out⟩, ⟨by first | exact below_step HWR.out HB2.out | exact bd' HWR.out _ | exact bd' (bd' HWR.out _) _ | exact HWR.out⟩⟩
        | true =>
        rw [Bool.true_and] at hE
        cases r3 with
        | false =>
         rw [Bool.false_and, if_neg (by decide), List.nil_append] at hE
         have HE := am' hE
         clear hE; go_wp2_with (first | (go_at_call 72; (with_reducible refine (impl_in.calls c 0 G _ _ HI1.out).mono ?_); rintro e w' ⟨rfl, ⟨nd, rfl⟩⟩) | (go_at_call 72; (with_reducible refine (impl_in.calls d 0 C _ _ HI2.out).mono ?_); rintro e w' ⟨rfl, ⟨nd, rfl⟩⟩) | (go_at_call 109; (with_reducible refine (impl_isFine.calls (x : Int) (y : Int) _ _ HI3.out).mono ?_); rintro e w' ⟨rfl, ⟨nd, rfl⟩⟩) | (go_at_call 69; (with_reducible refine (impl_guarded_bothFine.calls G C (S : Int) c d _ _ HI4.out).mono ?_); rintro e w2 ⟨rfl, hb2⟩; have HB2 := am' (show Below wr.heap.size wr w2 from below_step (bd' (Below.refl _ _) _) hb2); clear hb2))
         go_roundg (S + 1 - x - (y + 1))
         case measure => have h1 := HGY.out; have h2 := HYL.out; omega
         case rel => exact ⟨y + 1, acc, Ao, co, rfl, by have h2 := HYL.out; have h3 := HSN.out; first | exact nx (by omega) | exact nx2 (by omega) | exact rfl, ⟨by have h2 := HYL.out; omega⟩, ⟨Nat.le_refl _⟩, HE, ⟨by have h3 := HLA.out; omega⟩, ⟨by first | exact Kd.S_below HSA.out HB2.out | exact Kd.S_below HSA.out (bd' (Below.refl _ _) _) | exact Kd.S_below HSA.out (bd' (bd' (Below.refl _ _) _) _) | exact HSA.out⟩, ⟨by first | exact below_step HWR.out HB2.out | exact bd' HWR.out _ | exact bd' (bd' HWR.out _) _ | exact HWR.out⟩⟩
        | true =>
        rw [Bool.true_and] at hE
        cases r4 with
        | false =>
         rw [if_neg (by decide), List.nil_append] at hE
         have HE := am' hE
         clear hE; go_wp2_with (first | (go_at_call 72; (with_reducible refine (impl_in.calls c 0 G _ _ HI1.out).mono ?_); rintro e w' ⟨rfl, ⟨nd, rfl⟩⟩) | (go_at_call 72; (with_reducible refine (impl_in.calls d 0 C _ _ HI2.out).mono ?_); rintro e w' ⟨rfl, ⟨nd, rfl⟩⟩) | (go_at_call 109; (with_reducible refine (impl_isFine.calls (x : Int) (y : Int) _ _ HI3.out).mono ?_); rintro e w' ⟨rfl, ⟨nd, rfl⟩⟩) | (go_at_call 69; (with_reducible refine (impl_guarded_bothFine.calls G C (S : Int) c d _ _ HI4.out).mono ?_); rintro e w2 ⟨rfl, hb2⟩; have HB2 := am' (show Below wr.heap.size wr w2 from below_step (bd' (Below.refl _ _) _) hb2); clear hb2))
         go_roundg (S + 1 - x - (y + 1))
         case measure => have h1 := HGY.out; have h2 := HYL.out; omega
         case rel => exact ⟨y + 1, acc, Ao, co, rfl, by have h2 := HYL.out; have h3 := HSN.out; first | exact nx (by omega) | exact nx2 (by omega) | exact rfl, ⟨by have h2 := HYL.out; omega⟩, ⟨Nat.le_refl _⟩, HE, ⟨by have h3 := HLA.out; omega⟩, ⟨by first | exact Kd.S_below HSA.out HB2.out | exact Kd.S_below HSA.out (bd' (Below.refl _ _) _) | exact Kd.S_below HSA.out (bd' (bd' (Below.refl _ _) _) _) | exact HSA.out⟩, ⟨by first | exact below_step HWR.out HB2.out | exact bd' HWR.out _ | exact bd' (bd' HWR.out _) _ | exact HWR.out⟩⟩
        | true =>
         rw [if_pos rfl] at hE; have HE := am' hE
         clear hE; go_wp2_with (first | (go_at_call 72; (with_reducible refine (impl_in.calls c 0 G _ _ HI1.out).mono ?_); rintro e w' ⟨rfl, ⟨nd, rfl⟩⟩) | (go_at_call 72; (with_reducible refine (impl_in.calls d 0 C _ _ HI2.out).mono ?_); rintro e w' ⟨rfl, ⟨nd, rfl⟩⟩) | (go_at_call 109; (with_reducible refine (impl_isFine.calls (x : Int) (y : Int) _ _ HI3.out).mono ?_); rintro e w' ⟨rfl, ⟨nd, rfl⟩⟩) | (go_at_call 69; (with_reducible refine (impl_guarded_bothFine.calls G C (S : Int) c d _ _ HI4.out).mono ?_); rintro e w2 ⟨rfl, hb2⟩; have HB2 := am' (show Below wr.heap.size wr w2 from below_step (bd' (Below.refl _ _) _) hb2); clear hb2) | ((with_reducible refine gate_builtin (b := .append) (xs := #[.tmp 76, .tmp 89]) rfl ?_); at_builtin; refine Kd.S_append EdgK (w0 := W) W.heap.size rfl (.tmp 76) (.tmp 89) 110 109 (.agg #[.int .i64 0, .int .i64 0, .slice none 0 0]) 40 rfl Try.underlying110 hinfoE.out rfl (by decide) (by omega) (.slice Ao acc.length co) acc (tv, 1, [(x : Int), (y : Int)]) [.int .i64 tv, .int .i64 1, .slice (some ⟨w2.heap.size, 0, none⟩) 2 2] (fun _ => True) (fun k => k = w2.heap.size) rfl (by rw [World.size_alloc]; rfl) ?aP ?aK (fun _ _ => trivial) ?aO ?aB ?aS ?aL ?_; (case aP => exact ⟨[.int .i64 tv], _, rfl, rfl, [.int .i64 1], _, rfl, rfl, _, rfl, R_two (heap_alloc_new w2 _) (Nat.le_trans HWR.out.size HB2.out.size)⟩); (case aK => exact fun k hk => ⟨trivial, fun q => by have h1 := Kd.S_lt HSA.out k q.symm; have h2 := HB2.out.size; omega⟩); (case aO => exact Kd.S_mono (Kd.S_alloc (Kd.S_old HSA.out HB2.out) _) (fun k hk => ⟨trivial, fun q => by have h2 := HB2.out.size; omega⟩)); (case aB => exact ba' (below_step HWR.out HB2.out) _); (case aS => rw [World.size_alloc]; have h1 := HWR.out.size; have h2 := HB2.out.size; omega); (case aL => have h1 := HLA.out; have h2 := HSN.out; have h3 := HXL.out; have h4 := HYL.out; omega); intro v1 w1 ho hb hg hat; obtain ⟨A1, c1, e1⟩ := Kd.S_slice ho; rw [List.length_append, List.length_singleton] at e1; subst e1; have HO1 := am' (show Kd.S EdgK 109 w1 W.heap.size (fun _ => True) (.slice A1 (acc ++ [(tv, 1, [(x : Int), (y : Int)])]).length c1) (acc ++ [(tv, 1, [(x : Int), (y : Int)])]) by rw [List.length_append, List.length_singleton]; exact ho); have HB1 := am' hb; clear ho hb hg hat))
         go_roundg (S + 1 - x - (y + 1))
         case measure => have h1 := HGY.out; have h2 := HYL.out; omega
         case rel =>
          refine ⟨y + 1, acc ++ [(tv, 1, [(x : Int), (y : Int)])], A1, c1, by rw [List.length_append, List.length_singleton], by have h2 := HYL.out; have h3 := HSN.out; first | exact nx (by omega) | exact nx2 (by omega) | exact rfl, ⟨by have h2 := HYL.out; omega⟩, ⟨Nat.le_refl _⟩, ⟨?_⟩, ⟨?_⟩, HO1, HB1⟩
          ·
           have h3 := HE.out; rw [List.append_assoc] at h3; rw [List.append_assoc]; exact h3
          ·
           have h3 := HLA.out; rw [List.length_append, List.length_singleton]; omega
       ·
        have hpd := decide_eq_false hp
        rw [hpd, Bool.false_and] at hE
        rw [if_neg (by decide), List.nil_append] at hE
        have HE := am' hE
        clear hE; go_wp2_with (first | (go_at_call 72; (with_reducible refine (impl_in.calls c 0 G _ _ HI1.out).mono ?_); rintro e w' ⟨rfl, ⟨nd, rfl⟩⟩) | (go_at_call 72; (with_reducible refine (impl_in.calls d 0 C _ _ HI2.out).mono ?_); rintro e w' ⟨rfl, ⟨nd, rfl⟩⟩) | (go_at_call 109; (with_reducible refine (impl_isFine.calls (x : Int) (y : Int) _ _ HI3.out).mono ?_); rintro e w' ⟨rfl, ⟨nd, rfl⟩⟩) | (go_at_call 69; (with_reducible refine (impl_guarded_bothFine.calls G C (S : Int) c d _ _ HI4.out).mono ?_); rintro e w2 ⟨rfl, hb2⟩; have HB2 := am' (show Below wr.heap.size wr w2 from below_step (bd' (Below.refl _ _) _) hb2); clear hb2))
        go_roundg (S + 1 - x - (y + 1))
        case measure => have h1 := HGY.out; have h2 := HYL.out; omega
        case rel => exact ⟨y + 1, acc, Ao, co, rfl, by have h2 := HYL.out; have h3 := HSN.out; first | exact nx (by omega) | exact nx2 (by omega) | exact rfl, ⟨by have h2 := HYL.out; omega⟩, ⟨Nat.le_refl _⟩, HE, ⟨by have h3 := HLA.out; omega⟩, ⟨by first | exact Kd.S_below HSA.out HB2.out | exact Kd.S_below HSA.out (bd' (Below.refl _ _) _) | exact Kd.S_below HSA.out (bd' (bd' (Below.refl _ _) _) _) | exact HSA.out⟩, ⟨by first | exact below_step HWR.out HB2.out | exact bd' HWR.out _ | exact bd' (bd' HWR.out _) _ | exact HWR.out⟩⟩
      ·
       have hyz : ¬ (x : Int) + (y : Int) ≤ (S : Int) := by omega
       have hyzd := decide_eq_false hyz
       have hE := HE.out
       rw [show S + 1 - x - y = 0 by omega, gYs, List.nil_append] at hE
       have HE := am' hE
       clear hE; go_wp2
       go_roundg (S + 1 - (x + 1))
       case measure => have h1 := HGG.out; have h2 := HXL.out; omega
       case rel =>
        refine ⟨x + 1, acc, Ao, co, rfl, by have h2 := HXL.out; have h3 := HSN.out; first | exact nx (by omega) | exact nx2 (by omega) | exact rfl, ⟨by have h2 := HXL.out; omega⟩, ⟨Nat.le_refl _⟩, ⟨?_⟩, ⟨?_⟩, HSA, HWR⟩
        ·
         rw [show S + 1 - (x + 1) = S - x by omega]; exact HE.out
        ·
         have h3 := HLA.out; have h4 := HY.out; have h5 := HSN.out; omega
    ·
     have hxz : ¬ (x : Int) ≤ (S : Int) := by omega
     have hxzd := decide_eq_false hxz
     have hE := HE.out
     rw [show S + 1 - x = 0 by omega, gXs, List.append_nil] at hE
     subst hE; go_wp2
     go_ret
     exact ⟨_, rfl, HSA.out, HWR.out⟩
 ·
  rw [if_neg h] at hs; cases hs
set_option maxHeartbeats 2000000 in
set_option maxRecDepth 100000 in
theorem guarded_graph (G C S : Int) (w : World) : Calls Try.prog 106 #[.agg #[.int .i64 G, .int .i64 C, .int .i64 S]] w fun e w' => ∃ pg, e = .returned (.agg #[.int .i64 162, .func (.func 129) #[] #[.pointer (some ⟨pg, 0, none⟩)]]) ∧ w'.heap[pg]? = some (.cells #[.int .i64 G, .int .i64 C, .int .i64 S] 71 (0, 0)) ∧ Below w.heap.size w w' := by
 have hu := Try.underlying71
 have hug := Try.underlying68
 go_enter Try.func106, Try.ntmps106
 go_wp2_with fail
 have h2 := two_blocks w (.cells #[.int .i64 G, .int .i64 C, .int .i64 S] 71) (.cells #[.int .i64 162, .func (.func 129) #[] #[.pointer (some ⟨w.heap.size, 0, none⟩)]] 68)
 refine bodyPost_ret (results_cell_row rfl _ _ (w.heap.size + 1) 68 #[.int .i64 162, .func (.func 129) #[] #[.pointer (some ⟨w.heap.size, 0, none⟩)]] (0, 0) _ rfl h2.2.1 Try.underlying68 rfl (by kernel_rfl)) rfl ?_
 exact ⟨_, rfl, h2.1, h2.2.2⟩
theorem isOk_bounds {G C S : Int} (h : impl_guarded_isOk.f G C S = some true) : (0 ≤ G ∧ G ≤ 8) ∧ (0 ≤ C ∧ C ≤ 8) ∧ (1 ≤ S ∧ S ≤ 4) ∧ 0 < G + C := by
 unfold impl_guarded_isOk.f at h
 rw [in_val, in_val, in_val] at h
 simp only [Option.bind_some] at h
 split at h
 ·
  split at h
  ·
   split at h
   ·
    rename_i h1 h2 h3
    simp only [inI, Bool.and_eq_true, decide_eq_true_eq, Option.some.injEq] at h1 h2 h
    rw [wr_id (by omega) (by omega)] at h3
    exact ⟨h1, h2, h, h3⟩
   ·
    cases h
  ·
   cases h
 ·
  cases h
def impl_guarded_costs.f (k : Nat) (G C S : Int) : Option (List Int × Bool) :=
 (impl_guarded_isOk.f G C S).bind fun t => if t = true then (impl_guarded_bothFine.f G C S 0 0).bind fun u => if u = true then (bkD (gOut G C S) k 0 (List.replicate 162 (-1)) [[2 * (G * 9 + C) + 1]]).bind fun r => if r.length = 162 then some (r, decide (0 ≤ rd r 0)) else none else some ([], false) else some ([], false)
theorem blk_put2 {W : World} {g h : Nat} {o : Obj} {v0 v1 : Value} (hb : W.heap[h]? = some o) (hne : h ≠ g) : ((W.setCell ⟨g, 0, none⟩ v0).setCell ⟨g, 1, none⟩ v1).heap[h]? = some o := blk_kept hb (put2_kept W g v0 v1) hne
theorem R_one {w : World} {b base : Nat} {x : Int} {e : Nat} (h : w.heap[b]? = some (.cells #[.int .i64 x] e (0, 0))) (hB : base ≤ b) : (Kd.int .i64).R e w base (fun _ => True) (.slice (some ⟨b, 0, none⟩) 1 1) [x] := by
 refine Kd.R_of_own ?_ (fun k hk => trivial)
 exact ⟨by simp [encs], .inr ⟨b, 1, _, rfl, hB, h, Nat.le_refl _, by decide, by simp, by simp [encs]⟩⟩
set_option maxHeartbeats 4000000 in
set_option maxRecDepth 100000 in
theorem impl_guarded_costs.calls (k : Nat) (G C S : Int) (r : List Int) (ok : Bool) (w : World) (h : impl_guarded_costs.f k G C S = some (r, ok)) : Calls Try.prog 60 #[.agg #[.int .i64 G, .int .i64 C, .int .i64 S]] w fun e w' => ∃ pg v, e = .returned (.tuple #[.agg #[.int .i64 162, .func (.func 129) #[] #[.pointer (some ⟨pg, 0, none⟩)]], v, .bool ok]) ∧ w'.heap[pg]? = some (.cells #[.int .i64 G, .int .i64 C, .int .i64 S] 71 (0, 0)) ∧ (Kd.int .i64).R 3 w' w.heap.size (fun _ => True) v r ∧ (ok = true → r.length = 162) ∧ Below w.heap.size w w' := by
 have hu := Try.underlying71
 have hug := Try.underlying68
 unfold impl_guarded_costs.f at h
 obtain ⟨t, ht, h⟩ := Option.bind_eq_some_iff.mp h
 have HT := am' ht
 have HL2 := am' (two_blocks w (.cells #[.int .i64 G, .int .i64 C, .int .i64 S] 71) (.cells #[.int .i64 0, Value.nilFunc] 68))
 cases t with
 | false =>
  simp only [Bool.false_eq_true, if_false, Option.some.injEq, Prod.mk.injEq] at h
  obtain ⟨rfl, rfl⟩ := h
  clear ht; go_enter Try.func60, Try.ntmps60
  go_wp2_with (first | (go_at_call 106; refine (guarded_graph G C S _).mono ?_; rintro e w3 ⟨pg, rfl, hpg, hb3⟩; have HPGN := am' (blk_lt hpg); have J5 := am' (heap_alloc_new w3 (.cells #[.int .i64 162, .func (.func 129) #[] #[.pointer (some ⟨pg, 0, none⟩)]] 68)); have J1 := am' (ka' (blk_below HL2.out.1 hb3) (.cells #[.int .i64 162, .func (.func 129) #[] #[.pointer (some ⟨pg, 0, none⟩)]] 68)); have HP2L := am' (blk_lt (blk_below HL2.out.2.1 hb3)); have J2 := am' (ka' (blk_below HL2.out.2.1 hb3) (.cells #[.int .i64 162, .func (.func 129) #[] #[.pointer (some ⟨pg, 0, none⟩)]] 68)); have JG := am' (ka' hpg (.cells #[.int .i64 162, .func (.func 129) #[] #[.pointer (some ⟨pg, 0, none⟩)]] 68)); have HBJ := am' (ba' (below_step HL2.out.2.2 hb3) (.cells #[.int .i64 162, .func (.func 129) #[] #[.pointer (some ⟨pg, 0, none⟩)]] 68)); have x10 : (w3.alloc (.cells #[.int .i64 162, .func (.func 129) #[] #[.pointer (some ⟨pg, 0, none⟩)]] 68)).cell? ⟨w.heap.size, 0, none⟩ = some (.int .i64 G) := (blk_cell J1.out 0).trans rfl; have x11 : (w3.alloc (.cells #[.int .i64 162, .func (.func 129) #[] #[.pointer (some ⟨pg, 0, none⟩)]] 68)).cell? ⟨w.heap.size, 1, none⟩ = some (.int .i64 C) := (blk_cell J1.out 1).trans rfl; have x12 : (w3.alloc (.cells #[.int .i64 162, .func (.func 129) #[] #[.pointer (some ⟨pg, 0, none⟩)]] 68)).cell? ⟨w.heap.size, 2, none⟩ = some (.int .i64 S) := (blk_cell J1.out 2).trans rfl; clear hpg hb3) | (go_at_call 67; (with_reducible refine (impl_guarded_isOk.calls G C S _ _ HT.out).mono ?_); rintro e w4 ⟨rfl, hb4⟩; have K1 := am' (blk_below J1.out hb4); have K2 := am' (blk_below J2.out hb4); have K5 := am' (blk_below J5.out hb4); have KG := am' (blk_below JG.out hb4); have HBL := am' (below_step HBJ.out hb4); clear x10 x11 x12 hb4; have x10 : w4.cell? ⟨w.heap.size, 0, none⟩ = some (.int .i64 G) := (blk_cell K1.out 0).trans rfl; have x11 : w4.cell? ⟨w.heap.size, 1, none⟩ = some (.int .i64 C) := (blk_cell K1.out 1).trans rfl; have x12 : w4.cell? ⟨w.heap.size, 2, none⟩ = some (.int .i64 S) := (blk_cell K1.out 2).trans rfl; have x50 : w4.cell? ⟨w3.heap.size, 0, none⟩ = some (.int .i64 162) := (blk_cell K5.out 0).trans rfl; have x51 : w4.cell? ⟨w3.heap.size, 1, none⟩ = some (.func (.func 129) #[] #[.pointer (some ⟨pg, 0, none⟩)]) := (blk_cell K5.out 1).trans rfl; obtain ⟨c0_, f0_, c1_, f1_⟩ := put2 K2.out (.int .i64 162) (.func (.func 129) #[] #[.pointer (some ⟨pg, 0, none⟩)])))
  refine bodyPost_ret (results_ctt rfl _ _ (w.heap.size + 1) 68 #[.int .i64 162, .func (.func 129) #[] #[.pointer (some ⟨pg, 0, none⟩)]] (0, 0) _ rfl (put2_blk K2.out _ _) Try.underlying68 rfl (by kernel_rfl)) rfl ?_
  exact ⟨pg, _, rfl, blk_put2 KG.out (fun q => by have h1 := KG.out; rw [q, K2.out] at h1; simp at h1), Kd.R_nil _ _ _ _ _, (fun q => by cases q), bs' (bs' HBL.out (by omega)) (by omega)⟩
 | true =>
  simp only [if_true] at h
  obtain ⟨hG, hC, hS, hGC⟩ := isOk_bounds ht
  obtain ⟨t2, ht2, h⟩ := Option.bind_eq_some_iff.mp h
  have HT2 := am' ht2
  cases t2 with
  | false =>
   simp only [Bool.false_eq_true, if_false, Option.some.injEq, Prod.mk.injEq] at h
   obtain ⟨rfl, rfl⟩ := h
   clear ht ht2 hG hC hS hGC; go_enter Try.func60, Try.ntmps60
   go_wp2_with (first | (go_at_call 106; refine (guarded_graph G C S _).mono ?_; rintro e w3 ⟨pg, rfl, hpg, hb3⟩; have HPGN := am' (blk_lt hpg); have J5 := am' (heap_alloc_new w3 (.cells #[.int .i64 162, .func (.func 129) #[] #[.pointer (some ⟨pg, 0, none⟩)]] 68)); have J1 := am' (ka' (blk_below HL2.out.1 hb3) (.cells #[.int .i64 162, .func (.func 129) #[] #[.pointer (some ⟨pg, 0, none⟩)]] 68)); have HP2L := am' (blk_lt (blk_below HL2.out.2.1 hb3)); have J2 := am' (ka' (blk_below HL2.out.2.1 hb3) (.cells #[.int .i64 162, .func (.func 129) #[] #[.pointer (some ⟨pg, 0, none⟩)]] 68)); have JG := am' (ka' hpg (.cells #[.int .i64 162, .func (.func 129) #[] #[.pointer (some ⟨pg, 0, none⟩)]] 68)); have HBJ := am' (ba' (below_step HL2.out.2.2 hb3) (.cells #[.int .i64 162, .func (.func 129) #[] #[.pointer (some ⟨pg, 0, none⟩)]] 68)); have x10 : (w3.alloc (.cells #[.int .i64 162, .func (.func 129) #[] #[.pointer (some ⟨pg, 0, none⟩)]] 68)).cell? ⟨w.heap.size, 0, none⟩ = some (.int .i64 G) := (blk_cell J1.out 0).trans rfl; have x11 : (w3.alloc (.cells #[.int .i64 162, .func (.func 129) #[] #[.pointer (some ⟨pg, 0, none⟩)]] 68)).cell? ⟨w.heap.size, 1, none⟩ = some (.int .i64 C) := (blk_cell J1.out 1).trans rfl; have x12 : (w3.alloc (.cells #[.int .i64 162, .func (.func 129) #[] #[.pointer (some ⟨pg, 0, none⟩)]] 68)).cell? ⟨w.heap.size, 2, none⟩ = some (.int .i64 S) := (blk_cell J1.out 2).trans rfl; clear hpg hb3) | (go_at_call 67; (with_reducible refine (impl_guarded_isOk.calls G C S _ _ HT.out).mono ?_); rintro e w4 ⟨rfl, hb4⟩; have K1 := am' (blk_below J1.out hb4); have K2 := am' (blk_below J2.out hb4); have K5 := am' (blk_below J5.out hb4); have KG := am' (blk_below JG.out hb4); have HBL := am' (below_step HBJ.out hb4); clear x10 x11 x12 hb4; have x10 : w4.cell? ⟨w.heap.size, 0, none⟩ = some (.int .i64 G) := (blk_cell K1.out 0).trans rfl; have x11 : w4.cell? ⟨w.heap.size, 1, none⟩ = some (.int .i64 C) := (blk_cell K1.out 1).trans rfl; have x12 : w4.cell? ⟨w.heap.size, 2, none⟩ = some (.int .i64 S) := (blk_cell K1.out 2).trans rfl; have x50 : w4.cell? ⟨w3.heap.size, 0, none⟩ = some (.int .i64 162) := (blk_cell K5.out 0).trans rfl; have x51 : w4.cell? ⟨w3.heap.size, 1, none⟩ = some (.func (.func 129) #[] #[.pointer (some ⟨pg, 0, none⟩)]) := (blk_cell K5.out 1).trans rfl; obtain ⟨c0_, f0_, c1_, f1_⟩ := put2 K2.out (.int .i64 162) (.func (.func 129) #[] #[.pointer (some ⟨pg, 0, none⟩)])) | (go_at_call 69; (with_reducible refine (impl_guarded_bothFine.calls G C S 0 0 _ _ HT2.out).mono ?_); rintro e w5 ⟨rfl, hb5⟩; have L1 := am' (blk_below K1.out hb5); have L2 := am' (blk_below K2.out hb5); have L5 := am' (blk_below K5.out hb5); have LG := am' (blk_below KG.out hb5); have HBM := am' (below_step HBL.out hb5); clear x10 x11 x12 x50 x51 c0_ f0_ c1_ f1_ hb5 K1 K2 K5 KG HBL; have K1 := L1; have K2 := L2; have K5 := L5; have KG := LG; have HBL := HBM; clear L1 L2 L5 LG HBM; have x10 : w5.cell? ⟨w.heap.size, 0, none⟩ = some (.int .i64 G) := (blk_cell K1.out 0).trans rfl; have x11 : w5.cell? ⟨w.heap.size, 1, none⟩ = some (.int .i64 C) := (blk_cell K1.out 1).trans rfl; have x12 : w5.cell? ⟨w.heap.size, 2, none⟩ = some (.int .i64 S) := (blk_cell K1.out 2).trans rfl; have x50 : w5.cell? ⟨w3.heap.size, 0, none⟩ = some (.int .i64 162) := (blk_cell K5.out 0).trans rfl; have x51 : w5.cell? ⟨w3.heap.size, 1, none⟩ = some (.func (.func 129) #[] #[.pointer (some ⟨pg, 0, none⟩)]) := (blk_cell K5.out 1).trans rfl; obtain ⟨c0_, f0_, c1_, f1_⟩ := put2 K2.out (.int .i64 162) (.func (.func 129) #[] #[.pointer (some ⟨pg, 0, none⟩)])))
   refine bodyPost_ret (results_ctt rfl _ _ (w.heap.size + 1) 68 #[.int .i64 162, .func (.func 129) #[] #[.pointer (some ⟨pg, 0, none⟩)]] (0, 0) _ rfl (put2_blk K2.out _ _) Try.underlying68 rfl (by kernel_rfl)) rfl ?_
   exact ⟨pg, _, rfl, blk_put2 KG.out (fun q => by have h1 := KG.out; rw [q, K2.out] at h1; simp at h1), Kd.R_nil _ _ _ _ _, (fun q => by cases q), bs' (bs' HBL.out (by omega)) (by omega)⟩
  | true =>
   simp only [if_true] at h
   obtain ⟨rr, hd, h⟩ := Option.bind_eq_some_iff.mp h
   by_cases hlen : rr.length = 162
   ·
    rw [if_pos hlen] at h; simp only [Option.some.injEq, Prod.mk.injEq] at h
    obtain ⟨rfl, rfl⟩ := h
    obtain ⟨Sn, rfl⟩ : ∃ Sn : Nat, S = (Sn : Int) := ⟨S.toNat, by omega⟩
    have HD := am' hd
    have HLEN := am' hlen
    have HBG := am' hG
    have HBC := am' hC
    have HBS := am' (show 1 ≤ Sn ∧ Sn ≤ 4 by omega)
    obtain ⟨e1, he1⟩ : ∃ x, x = G * 9 := ⟨_, rfl⟩
    obtain ⟨e2, he2⟩ : ∃ x, x = e1 + C := ⟨_, rfl⟩
    obtain ⟨e3, he3⟩ : ∃ x, x = 2 * e2 := ⟨_, rfl⟩
    obtain ⟨st, hst⟩ : ∃ x, x = e3 + 1 := ⟨_, rfl⟩
    have hw1 : wrap64 (G * 9) = e1 := by rw [wr_id (by omega) (by omega), he1]
    have hw2 : wrap64 (e1 + C) = e2 := by rw [wr_id (by omega) (by omega), he2]
    have hw3 : wrap64 (2 * e2) = e3 := by rw [wr_id (by omega) (by omega), he3]
    have hw4 : wrap64 (e3 + 1) = st := by rw [wr_id (by omega) (by omega), hst]
    have HST := am' (show st = 2 * (G * 9 + C) + 1 by omega)
    clear ht ht2 hG hC hS hGC hd hlen he1 he2 he3 hst; go_enter Try.func60, Try.ntmps60
    go_wp2_with (first | (go_at_call 106; refine (guarded_graph G C (Sn : Int) _).mono ?_; rintro e w3 ⟨pg, rfl, hpg, hb3⟩; have HPGN := am' (blk_lt hpg); have J5 := am' (heap_alloc_new w3 (.cells #[.int .i64 162, .func (.func 129) #[] #[.pointer (some ⟨pg, 0, none⟩)]] 68)); have J1 := am' (ka' (blk_below HL2.out.1 hb3) (.cells #[.int .i64 162, .func (.func 129) #[] #[.pointer (some ⟨pg, 0, none⟩)]] 68)); have HP2L := am' (blk_lt (blk_below HL2.out.2.1 hb3)); have J2 := am' (ka' (blk_below HL2.out.2.1 hb3) (.cells #[.int .i64 162, .func (.func 129) #[] #[.pointer (some ⟨pg, 0, none⟩)]] 68)); have JG := am' (ka' hpg (.cells #[.int .i64 162, .func (.func 129) #[] #[.pointer (some ⟨pg, 0, none⟩)]] 68)); have HBJ := am' (ba' (below_step HL2.out.2.2 hb3) (.cells #[.int .i64 162, .func (.func 129) #[] #[.pointer (some ⟨pg, 0, none⟩)]] 68)); have x10 : (w3.alloc (.cells #[.int .i64 162, .func (.func 129) #[] #[.pointer (some ⟨pg, 0, none⟩)]] 68)).cell? ⟨w.heap.size, 0, none⟩ = some (.int .i64 G) := (blk_cell J1.out 0).trans rfl; have x11 : (w3.alloc (.cells #[.int .i64 162, .func (.func 129) #[] #[.pointer (some ⟨pg, 0, none⟩)]] 68)).cell? ⟨w.heap.size, 1, none⟩ = some (.int .i64 C) := (blk_cell J1.out 1).trans rfl; have x12 : (w3.alloc (.cells #[.int .i64 162, .func (.func 129) #[] #[.pointer (some ⟨pg, 0, none⟩)]] 68)).cell? ⟨w.heap.size, 2, none⟩ = some (.int .i64 (Sn : Int)) := (blk_cell J1.out 2).trans rfl; clear hpg hb3) | (go_at_call 67; (with_reducible refine (impl_guarded_isOk.calls G C (Sn : Int) _ _ HT.out).mono ?_); rintro e w4 ⟨rfl, hb4⟩; have K1 := am' (blk_below J1.out hb4); have K2 := am' (blk_below J2.out hb4); have K5 := am' (blk_below J5.out hb4); have KG := am' (blk_below JG.out hb4); have HBL := am' (below_step HBJ.out hb4); clear x10 x11 x12 hb4; have x10 : w4.cell? ⟨w.heap.size, 0, none⟩ = some (.int .i64 G) := (blk_cell K1.out 0).trans rfl; have x11 : w4.cell? ⟨w.heap.size, 1, none⟩ = some (.int .i64 C) := (blk_cell K1.out 1).trans rfl; have x12 : w4.cell? ⟨w.heap.size, 2, none⟩ = some (.int .i64 (Sn : Int)) := (blk_cell K1.out 2).trans rfl; have x50 : w4.cell? ⟨w3.heap.size, 0, none⟩ = some (.int .i64 162) := (blk_cell K5.out 0).trans rfl; have x51 : w4.cell? ⟨w3.heap.size, 1, none⟩ = some (.func (.func 129) #[] #[.pointer (some ⟨pg, 0, none⟩)]) := (blk_cell K5.out 1).trans rfl; obtain ⟨c0_, f0_, c1_, f1_⟩ := put2 K2.out (.int .i64 162) (.func (.func 129) #[] #[.pointer (some ⟨pg, 0, none⟩)])) | (go_at_call 69; (with_reducible refine (impl_guarded_bothFine.calls G C (Sn : Int) 0 0 _ _ HT2.out).mono ?_); rintro e w5 ⟨rfl, hb5⟩; have L1 := am' (blk_below K1.out hb5); have L2 := am' (blk_below K2.out hb5); have L5 := am' (blk_below K5.out hb5); have LG := am' (blk_below KG.out hb5); have HBM := am' (below_step HBL.out hb5); clear x10 x11 x12 x50 x51 c0_ f0_ c1_ f1_ hb5 K1 K2 K5 KG HBL; have K1 := L1; have K2 := L2; have K5 := L5; have KG := LG; have HBL := HBM; clear L1 L2 L5 LG HBM; have x10 : w5.cell? ⟨w.heap.size, 0, none⟩ = some (.int .i64 G) := (blk_cell K1.out 0).trans rfl; have x11 : w5.cell? ⟨w.heap.size, 1, none⟩ = some (.int .i64 C) := (blk_cell K1.out 1).trans rfl; have x12 : w5.cell? ⟨w.heap.size, 2, none⟩ = some (.int .i64 (Sn : Int)) := (blk_cell K1.out 2).trans rfl; have x50 : w5.cell? ⟨w3.heap.size, 0, none⟩ = some (.int .i64 162) := (blk_cell K5.out 0).trans rfl; have x51 : w5.cell? ⟨w3.heap.size, 1, none⟩ = some (.func (.func 129) #[] #[.pointer (some ⟨pg, 0, none⟩)]) := (blk_cell K5.out 1).trans rfl; obtain ⟨c0_, f0_, c1_, f1_⟩ := put2 K2.out (.int .i64 162) (.func (.func 129) #[] #[.pointer (some ⟨pg, 0, none⟩)])) | (go_at_call 107; have K2' := K2; have HW5 := am' (Nat.le_refl w5.heap.size); have HSTB := am' (ba' (Below.refl w5.heap.size w5) (.cells #[.int .i64 st] 3)); refine (from_any 129 #[.pointer (some ⟨pg, 0, none⟩)] (gOut G C (Sn : Int)) k 162 [st] rr w5 _ (enters_of Try.func129 (by kernel_rfl) rfl) (guarded_out G C Sn HBG.out HBC.out HBS.out w5 pg KG.out) (some ⟨w5.heap.size, 0, none⟩) 1 (R_one (heap_alloc_new w5 _) (Nat.le_refl _)) HSTB.out (by decide) (by decide) (by rw [HST.out]; exact HD.out)).mono ?_; rintro e w6 ⟨v6, rfl, hr6, hb6⟩; obtain ⟨gd, cd, hv6, _⟩ := Kd.R_form hr6 (by have := HLEN.out; omega); rw [HLEN.out] at hv6; subst hv6; have M1 := am' (blk_below K1.out hb6); have M2 := am' (blk_below K2.out hb6); have M5 := am' (blk_below K5.out hb6); have MG := am' (blk_below KG.out hb6); have HBN := am' (below_step HBL.out hb6); have HR6 := am' hr6; clear x10 x11 x12 x50 x51 c0_ f0_ c1_ f1_ hb6 K1 K2 K5 KG HBL hr6))
    obtain ⟨dv, hdv⟩ : ∃ x, x = rd rr 0 := ⟨_, rfl⟩
    have hx0 : w6.cell? ⟨gd, 0, none⟩ = some (.int .i64 dv) := by
     have := (Kd.R_celln 0 HR6.out 0 (by omega) (by omega)).1
     rw [hdv]; simpa [rd, rdOf] using this
    have HDV := am' hdv
    clear hdv; have x50 : w6.cell? ⟨w3.heap.size, 0, none⟩ = some (.int .i64 162) := (blk_cell M5.out 0).trans rfl
    have x51 : w6.cell? ⟨w3.heap.size, 1, none⟩ = some (.func (.func 129) #[] #[.pointer (some ⟨pg, 0, none⟩)]) := (blk_cell M5.out 1).trans rfl
    have HW3 := am' HBJ.out.size
    have hg1 : w.heap.size + 1 < w3.heap.size := HP2L.out
    have HGD := am' (show gd ≠ w.heap.size + 1 from fun q => by have h1 := Kd.R_base HR6.out gd (by simp [Value.ownBlock]); have h2 := HW5.out; have h3 := blk_lt K2'.out; omega)
    have HKP := am' (put2_kept w6 (w.heap.size + 1) (.int .i64 162) (.func (.func 129) #[] #[.pointer (some ⟨pg, 0, none⟩)]))
    have q0 := cell_kept x50 HKP.out (fun q => by dsimp only at q; omega)
    have q1 := cell_kept x51 HKP.out (fun q => by dsimp only at q; omega)
    have q2 := cell_kept hx0 HKP.out (fun q => HGD.out q)
    obtain ⟨c0_, f0_, c1_, f1_⟩ := put2 M2.out (.int .i64 162) (.func (.func 129) #[] #[.pointer (some ⟨pg, 0, none⟩)])
    go_region_held3 (fun w' => w'.cell? ⟨w3.heap.size, 0, none⟩ = some (.int .i64 162) ∧ w'.cell? ⟨w3.heap.size, 1, none⟩ = some (.func (.func 129) #[] #[.pointer (some ⟨pg, 0, none⟩)]) ∧ w'.cell? ⟨gd, 0, none⟩ = some (.int .i64 dv))
     (first | exact ⟨q0, q1, q2⟩ | go_keep)
     (first | (fail) | (fail))
    all_goals
     have hsz5 := blk_lt K2'.out
     have hszw := HBN.out.size
     have hRR : (Kd.int .i64).R 3 ((w6.setCell ⟨w.heap.size + 1, 0, none⟩ (.int .i64 162)).setCell ⟨w.heap.size + 1, 1, none⟩ (.func (.func 129) #[] #[.pointer (some ⟨pg, 0, none⟩)])) w.heap.size (fun _ => True) (.slice (some ⟨gd, 0, none⟩) 162 cd) rr := Kd.R_lower (Kd.R_mono (Kd.R_kept (Kd.R_bound HR6.out) HKP.out (fun k hk q => by have h1 := hk.2.1; omega)) (fun _ _ => trivial)) (by omega)
     have hBB : Below w.heap.size w ((w6.setCell ⟨w.heap.size + 1, 0, none⟩ (.int .i64 162)).setCell ⟨w.heap.size + 1, 1, none⟩ (.func (.func 129) #[] #[.pointer (some ⟨pg, 0, none⟩)])) := bs' (bs' HBN.out (by omega)) (by omega)
     have HRR := am' hRR
     have HBB := am' hBB
     clear hRR hBB hsz5 hszw; go_wp2
     refine bodyPost_ret (results_ctt rfl _ _ (w.heap.size + 1) 68 #[.int .i64 162, .func (.func 129) #[] #[.pointer (some ⟨pg, 0, none⟩)]] (0, 0) _ rfl (put2_blk M2.out _ _) Try.underlying68 rfl (by kernel_rfl)) rfl ?_
     refine ⟨pg, .slice (some ⟨gd, 0, none⟩) 162 cd, by rw [← HDV.out]; rfl, ?_, ?_, (fun _ => HLEN.out), ?_⟩
     ·
      exact blk_put2 MG.out (fun q => by have h1 := MG.out; rw [q, M2.out] at h1; simp at h1)
     ·
      exact HRR.out
     ·
      first | exact HBB.out | exact below_drew HBB.out | exact bd' HBB.out _
   ·
    rw [if_neg hlen] at h; cases h
def seatsG (k : Nat) (a0 a1 : Int) : Nat → Int → Option (Int × Bool)
 | 0, _ => some (0, false)
 | n + 1, s => (impl_guarded_costs.f k a0 a1 s).bind fun p => if p.2 = true then some (s, true) else seatsG k a0 a1 n (s + 1)
def impl_SeatsForGuards.f (k : Nat) (a0 a1 : Int) : Option (Int × Bool) := seatsG k a0 a1 4 1
set_option maxHeartbeats 2000000 in
set_option maxRecDepth 100000 in
theorem impl_SeatsForGuards.calls (k : Nat) (a0 : Int) (a1 : Int) (r1 : Int) (r2 : Bool) (w : World) (h : impl_SeatsForGuards.f k a0 a1 = some (r1, r2)) :
  Calls Try.prog 17 #[.int .i64 a0, .int .i64 a1] w fun e w' => e = .returned (.tuple #[.int .i64 r1, .bool r2]) ∧ Below w.heap.size w w' := by
 have hu := Try.underlying71
 have hug := Try.underlying68
 have HE := am' (show seatsG k a0 a1 4 ((1 : Nat) : Int) = some (r1, r2) from h)
 clear h; go_enter Try.func17, Try.ntmps17
 go_wp2
 go_loopg [6] 4 (fun gg v6 wr => ∃ n s : Nat, Aside0 (n ≤ gg) ∧ Aside0 (s + n = 5) ∧ v6 = .int .i64 (s : Int) ∧ Aside0 (seatsG k a0 a1 n (s : Int) = some (r1, r2)) ∧ Aside0 (Below w.heap.size w wr))
 case atStart => exact ⟨4, 1, ⟨by omega⟩, ⟨by omega⟩, rfl, HE, ⟨Below.refl _ _⟩⟩
 case round =>
  obtain ⟨n, s, HN, HSN, rfl, HE, HB⟩ := hrel
  cases n with
  | zero =>
   have hs : ¬ (s : Int) ≤ 4 := by have := HSN.out; omega
   have hsd := decide_eq_false hs
   have h := HE.out
   simp only [seatsG, Option.some.injEq, Prod.mk.injEq] at h
   obtain ⟨rfl, rfl⟩ := h
   go_wp2
   go_ret2
   exact ⟨rfl, HB.out⟩
  | succ n =>
   have hs : (s : Int) ≤ 4 := by have := HSN.out; omega
   have hsd := decide_eq_true hs
   have h := HE.out
   rw [seatsG] at h
   obtain ⟨⟨r, ok⟩, hc, h⟩ := Option.bind_eq_some_iff.mp h
   have HC := am' (impl_guarded_costs.calls k a0 a1 (s : Int) r ok wr hc)
   clear hc HE; cases ok with
   | false =>
    simp only [Bool.false_eq_true, if_false] at h
    have HE := am' h
    clear h; go_wp2_with fail
    refine HC.out.mono ?_
    rintro e w2 ⟨pg, v, rfl, hpg, hr, hl, hb⟩
    obtain ⟨Av, cv, rfl⟩ := Kd.R_slice hr
    have HB2 := am' (below_step HB.out hb)
    clear hpg hr hl hb; go_wp2
    go_roundg n
    case measure => have := HN.out; omega
    case rel => exact ⟨n, s + 1, ⟨Nat.le_refl _⟩, ⟨by have := HSN.out; omega⟩, by first | exact nx (by omega) | exact nx2 (by omega) | exact rfl, HE, ⟨ba' HB2.out _⟩⟩
   | true =>
    simp only [if_true, Option.some.injEq, Prod.mk.injEq] at h
    obtain ⟨rfl, rfl⟩ := h
    go_wp2_with fail
    refine HC.out.mono ?_
    rintro e w2 ⟨pg, v, rfl, hpg, hr, hl, hb⟩
    obtain ⟨Av, cv, rfl⟩ := Kd.R_slice hr
    have HB2 := am' (below_step HB.out hb)
    clear hpg hr hl hb; go_wp2
    go_ret2
    exact ⟨rfl, ba' HB2.out _⟩
def laws_FnExactSeatsForGuards.f (k : Nat) (a0 : Int) (a1 : Int) : Option (Bool) := (spec_SeatsForGuards.f k a0 a1).bind fun bt145 => ((impl_SeatsForGuards.f k a0 a1).bind fun bt147 => (if bt147.1 = bt145.1 then (if (bt147.2 != bt145.2) = true then (some false) else (some true)) else (some false)))
set_option maxHeartbeats 8000000 in
set_option maxRecDepth 100000 in
theorem laws_FnExactSeatsForGuards.calls (k : Nat) (a0 : Int) (a1 : Int) (r : Bool) (w : World) (h : laws_FnExactSeatsForGuards.f k a0 a1 = some r) :
  Calls Try.prog 4 #[.int .i64 a0, .int .i64 a1] w fun e w' => e = .returned (.bool r) ∧ Below w.heap.size w w' := by
 have HB := am' (Below.refl w.heap.size w)
 have H : ((spec_SeatsForGuards.f k a0 a1).bind fun bt145 => ((impl_SeatsForGuards.f k a0 a1).bind fun bt147 => (if bt147.1 = bt145.1 then (if (bt147.2 != bt145.2) = true then (some false) else (some true)) else (some false)))) = some r := h
 clear h; replace H := Option.bind_eq_some_iff.mp H
 obtain ⟨⟨t145, t146⟩, A30, H⟩ := H
 replace H : ((impl_SeatsForGuards.f k a0 a1).bind fun bt147 => (if bt147.1 = t145 then (if (bt147.2 != t146) = true then (some false) else (some true)) else (some false))) = some r := H
 have A3 := am' A30
 clear A30; replace H := Option.bind_eq_some_iff.mp H
 obtain ⟨⟨t147, t148⟩, A40, H⟩ := H
 replace H : (if t147 = t145 then (if (t148 != t146) = true then (some false) else (some true)) else (some false)) = some r := H
 have A4 := am' A40
 clear A40; by_cases c5 : t147 = t145
 ·
  rw [if_pos c5] at H; have c5b0 : (t147 == t145) = true := beq_iff_eq.mpr c5
  have c5b1 : (t147 != t145) = false := bne_eq_false_iff_eq.mpr c5
  clear c5; by_cases c6 : (t148 != t146) = true
  ·
   rw [if_pos c6] at H; have c6b0 : (t148 != t146) = true := c6
   (try (have c6b1 : decide (t148 = t146) = false := by simpa using c6))
   (try (have c6b2 : (t148 == t146) = false := by simpa using c6))
   (try (have c6b3 : ¬ (t148 = t146) := by simpa using c6))
   clear c6; obtain rfl := Option.some.inj H
   go_enter Try.func4, Try.ntmps4
   go_wp2_with (first | ((with_reducible refine gate_callee (f := 16) rfl ?_); refine goesL_ (some 12) rfl rfl Try.func16 (by kernel_rfl) rfl #[.int .i64 a0, .int .i64 a1] rfl (by (try simp only [List.map_toArray, List.map_cons, List.map_nil]); first | done | rfl | (simp only [List.length_drop, List.length_take]; rfl)) ?_; (with_reducible refine (spec_SeatsForGuards.calls k a0 a1 t145 t146 _ A3.out).mono ?_); rintro e w7 ⟨rfl, hb⟩; refine ⟨_, rfl, ?_⟩; have n0_ := am' (below_step (by repeat (first | (with_reducible first | exact HB.out | apply ba' | apply bd' | apply be') | exact HB.out)) hb); clear HB; have HB := n0_; clear n0_; (try clear hb); (try clear hb2); (try clear hk); (try clear hi)) | ((with_reducible refine gate_callee (f := 17) rfl ?_); refine goesL_ (some 18) rfl rfl Try.func17 (by kernel_rfl) rfl #[.int .i64 a0, .int .i64 a1] rfl (by (try simp only [List.map_toArray, List.map_cons, List.map_nil]); first | done | rfl | (simp only [List.length_drop, List.length_take]; rfl)) ?_; (with_reducible refine (impl_SeatsForGuards.calls k a0 a1 t147 t148 _ A4.out).mono ?_); rintro e w8 ⟨rfl, hb⟩; refine ⟨_, rfl, ?_⟩; have n0_ := am' (below_step (by repeat (first | (with_reducible first | exact HB.out | apply ba' | apply bd' | apply be') | exact HB.out)) hb); clear HB; have HB := n0_; clear n0_; (try clear hb); (try clear hb2); (try clear hk); (try clear hi)))
   go_ret
   exact ⟨by first | rfl | (simp [errW_none, errW_some] <;> rfl) | (simp [*, errW_none, errW_some] <;> rfl), by repeat (first | (with_reducible first | exact HB.out | apply ba' | apply bd' | apply be') | exact HB.out)⟩
  ·
   rw [if_neg c6] at H; have c6b0 : (t148 != t146) = false := by simpa using c6
   (try (have c6b1 : decide (t148 = t146) = true := by simpa using c6))
   (try (have c6b2 : (t148 == t146) = true := by simpa using c6))
   clear c6; obtain rfl := Option.some.inj H
   go_enter Try.func4, Try.ntmps4
   go_wp2_with (first | ((with_reducible refine gate_callee (f := 16) rfl ?_); refine goesL_ (some 12) rfl rfl Try.func16 (by kernel_rfl) rfl #[.int .i64 a0, .int .i64 a1] rfl (by (try simp only [List.map_toArray, List.map_cons, List.map_nil]); first | done | rfl | (simp only [List.length_drop, List.length_take]; rfl)) ?_; (with_reducible refine (spec_SeatsForGuards.calls k a0 a1 t145 t146 _ A3.out).mono ?_); rintro e w9 ⟨rfl, hb⟩; refine ⟨_, rfl, ?_⟩; have n0_ := am' (below_step (by repeat (first | (with_reducible first | exact HB.out | apply ba' | apply bd' | apply be') | exact HB.out)) hb); clear HB; have HB := n0_; clear n0_; (try clear hb); (try clear hb2); (try clear hk); (try clear hi)) | ((with_reducible refine gate_callee (f := 17) rfl ?_); refine goesL_ (some 18) rfl rfl Try.func17 (by kernel_rfl) rfl #[.int .i64 a0, .int .i64 a1] rfl (by (try simp only [List.map_toArray, List.map_cons, List.map_nil]); first | done | rfl | (simp only [List.length_drop, List.length_take]; rfl)) ?_; (with_reducible refine (impl_SeatsForGuards.calls k a0 a1 t147 t148 _ A4.out).mono ?_); rintro e w10 ⟨rfl, hb⟩; refine ⟨_, rfl, ?_⟩; have n0_ := am' (below_step (by repeat (first | (with_reducible first | exact HB.out | apply ba' | apply bd' | apply be') | exact HB.out)) hb); clear HB; have HB := n0_; clear n0_; (try clear hb); (try clear hb2); (try clear hk); (try clear hi)))
   go_ret
   exact ⟨by first | rfl | (simp [errW_none, errW_some] <;> rfl) | (simp [*, errW_none, errW_some] <;> rfl), by repeat (first | (with_reducible first | exact HB.out | apply ba' | apply bd' | apply be') | exact HB.out)⟩
 ·
  rw [if_neg c5] at H; have c5b0 : (t147 == t145) = false := beq_eq_false_iff_ne.mpr c5
  have c5b1 : (t147 != t145) = true := bne_iff_ne.mpr c5
  obtain rfl := Option.some.inj H
  go_enter Try.func4, Try.ntmps4
  go_wp2_with (first | ((with_reducible refine gate_callee (f := 16) rfl ?_); refine goesL_ (some 12) rfl rfl Try.func16 (by kernel_rfl) rfl #[.int .i64 a0, .int .i64 a1] rfl (by (try simp only [List.map_toArray, List.map_cons, List.map_nil]); first | done | rfl | (simp only [List.length_drop, List.length_take]; rfl)) ?_; (with_reducible refine (spec_SeatsForGuards.calls k a0 a1 t145 t146 _ A3.out).mono ?_); rintro e w11 ⟨rfl, hb⟩; refine ⟨_, rfl, ?_⟩; have n0_ := am' (below_step (by repeat (first | (with_reducible first | exact HB.out | apply ba' | apply bd' | apply be') | exact HB.out)) hb); clear HB; have HB := n0_; clear n0_; (try clear hb); (try clear hb2); (try clear hk); (try clear hi)) | ((with_reducible refine gate_callee (f := 17) rfl ?_); refine goesL_ (some 18) rfl rfl Try.func17 (by kernel_rfl) rfl #[.int .i64 a0, .int .i64 a1] rfl (by (try simp only [List.map_toArray, List.map_cons, List.map_nil]); first | done | rfl | (simp only [List.length_drop, List.length_take]; rfl)) ?_; (with_reducible refine (impl_SeatsForGuards.calls k a0 a1 t147 t148 _ A4.out).mono ?_); rintro e w12 ⟨rfl, hb⟩; refine ⟨_, rfl, ?_⟩; have n0_ := am' (below_step (by repeat (first | (with_reducible first | exact HB.out | apply ba' | apply bd' | apply be') | exact HB.out)) hb); clear HB; have HB := n0_; clear n0_; (try clear hb); (try clear hb2); (try clear hk); (try clear hi)))
  go_ret
  exact ⟨by first | rfl | (simp [errW_none, errW_some] <;> rfl) | (simp [*, errW_none, errW_some] <;> rfl), by repeat (first | (with_reducible first | exact HB.out | apply ba' | apply bd' | apply be') | exact HB.out)⟩
def laws_FnExactSeatsForGuards.Pure : Prop := ∀ (a0 : Int) (a1 : Int), (Lit.int .i64 a0).wf = true → (Lit.int .i64 a1).wf = true → ∃ k, laws_FnExactSeatsForGuards.f k a0 a1 = some true
end Go.Proofs.Ytibdeohiimjocaa.C8
