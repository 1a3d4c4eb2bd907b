import Derived.Test.YtikjdmiohpdnaaaC13zx0
import Derived.Test.YtikjdmiohpdnaaaC13zx9
import Derived.Test.YtikjdmiohpdnaaaC13zx10
import Derived.Test.YtikjdmiohpdnaaaC13zAl
namespace Go.Proofs.Ytikjdmiohpdnaaa.C13
open Go.RowKit Go.Proofs.YtikjdmiohpdnaaaW.PrintWords Go.Proofs.YtikjdmiohpdnaaaW.PrintLast Go.Proofs.YtikjdmiohpdnaaaW.PrintMore Go.Proofs.Ytikjdmiohpdnaaa.H
attribute [local go_sem] max2_int min2_int max_two min_two max_three min_three max_four min_four
set_option linter.unusedVariables false
set_option linter.unusedSimpArgs false
def grpsF (most : Int) : List Int → List Int → List (List Int)
 | [], _ => []
 | x :: r, l => if (l.length : Int) < most then (l ++ [x]) :: (grpsF most r (l ++ [x]) ++ grpsF most r l) else []
def CbPost {σ : Type} (B : Nat) (Inv : σ → World → (Nat → Prop) → Prop) (s' : σ) (O : Nat → Prop) (W : World) (e : Ending) (W' : World) : Prop :=
 e = .returned (.tuple #[]) ∧ Below B W W' ∧ ∃ O', Inv s' W' O' ∧ Kept W W' O ∧ ∀ k, O' k → O k ∨ W.heap.size ≤ k
def EachOk {σ : Type} (B g : Nat) (lb : Array Value) (Inv : σ → World → (Nat → Prop) → Prop) (step : σ → List Int → Option σ) : Prop :=
 ∀ (s s' : σ) (O : Nat → Prop) (W0 W : World) (v : Value) (l : List Int), Inv s W0 O → Below W0.heap.size W0 W → Kd.R (Kd.int .i64) 3 W W0.heap.size (fun _ => True) v l → step s l = some s' →
  Calls Try.prog g (#[v] ++ lb) W (CbPost B Inv s' O W)
structure GFr (w : World) (O : Nat → Prop) (g : Nat) (lb : Array Value) (people : List Int) (most : Int) (A : Option Addr) (c p0 p1 p2 p3 : Nat) : Prop where
 h0 : w.heap[p0]? = some (.cells #[.slice A people.length c] 22 (0, 0))
 h1 : w.heap[p1]? = some (.cells #[.int .i64 most] 3 (0, 0))
 h2 : w.heap[p2]? = some (.cells #[.func (.func g) #[] lb] 109 (0, 0))
 h3 : w.heap[p3]? = some (.cells #[.func (.func 118) #[] #[.pointer (some ⟨p0, 0, none⟩), .pointer (some ⟨p1, 0, none⟩), .pointer (some ⟨p2, 0, none⟩), .pointer (some ⟨p3, 0, none⟩)]] 126 (0, 0))
 n0 : ¬ O p0
 n1 : ¬ O p1
 n2 : ¬ O p2
 n3 : ¬ O p3
 hF : Kd.F (Kd.int .i64) w (fun k => ¬ O k) A people.length people
theorem GFr.kept {w W : World} {O O' : Nat → Prop} {g : Nat} {lb : Array Value} {people : List Int} {most : Int} {A : Option Addr} {c p0 p1 p2 p3 : Nat} (h : GFr w O g lb people most A c p0 p1 p2 p3) (hk : Kept w W O) (ho : ∀ k, O' k → O k ∨ w.heap.size ≤ k) : GFr W O' g lb people most A c p0 p1 p2 p3 := by
 have lt : ∀ {p : Nat} {o : Obj}, w.heap[p]? = some o → ¬ O p → ¬ O' p := fun hp hn h => by
  rcases ho _ h with q | q
  ·
   exact hn q
  ·
   have := blk_lt hp; omega
 exact ⟨blk_kept h.h0 hk h.n0, blk_kept h.h1 hk h.n1, blk_kept h.h2 hk h.n2, blk_kept h.h3 hk h.n3, lt h.h0 h.n0, lt h.h1 h.n1, lt h.h2 h.n2, lt h.h3 h.n3,
  Kd.F_mono (Kd.F_kept (Kd.F_bound h.hF) hk (fun _ q => q.1)) (fun k q q2 => by rcases ho k q2 with q3 | q3; exact q.1 q3; omega)⟩
theorem F_turn {w W : World} {O O' : Nat → Prop} {A : Option Addr} {n : Nat} {l : List Int} (h : Kd.F (Kd.int .i64) w (fun k => ¬ O k) A n l) (hk : Kept w W O) (ho : ∀ k, O' k → O k ∨ w.heap.size ≤ k) : Kd.F (Kd.int .i64) W (fun k => ¬ O' k) A n l :=
 Kd.F_mono (Kd.F_kept (Kd.F_bound h) hk (fun _ q => q.1)) (fun k q q2 => by rcases ho k q2 with q3 | q3; exact q.1 q3; omega)
section
variable {σ : Type} {B g : Nat} {lb : Array Value} {Inv : σ → World → (Nat → Prop) → Prop} {step : σ → List Int → Option σ}
set_option maxHeartbeats 2000000 in
set_option maxRecDepth 100000 in
theorem on_any (HE : EachOk B g lb Inv step) (HI : ∀ s W O, Inv s W O → ∀ k, O k → B ≤ k ∧ k < W.heap.size) (eg : ∀ args w, (callFunc g args).run Try.prog w = .ok (.enter g args) w)
  (people : List Int) (most : Int) (A : Option Addr) (c p0 p1 p2 p3 : Nat) (hpc : people.length ≤ c) (hpl : people.length ≤ 1048576) :
  ∀ (d f : Nat) (s s' : σ) (O : Nat → Prop) (w : World) (Al : Option Addr) (cl : Nat) (l : List Int), people.length - f ≤ d → f ≤ people.length → B ≤ w.heap.size → Inv s w O → GFr w O g lb people most A c p0 p1 p2 p3 → Kd.F (Kd.int .i64) w (fun k => ¬ O k) Al l.length l → l.length ≤ cl → l.length + (people.length - f) ≤ 1048576 →
   (grpsF most (people.drop f) l).foldlM step s = some s' →
   Calls Try.prog 118 #[.int .i64 f, .slice Al l.length cl, .pointer (some ⟨p0, 0, none⟩), .pointer (some ⟨p1, 0, none⟩), .pointer (some ⟨p2, 0, none⟩), .pointer (some ⟨p3, 0, none⟩)] w (CbPost B Inv s' O w) := by
 intro d; induction d using Nat.strongRecOn with
 | ind d ih =>
 intro f s s' O w Al cl l hd hf hB hinv hfr hl hlc hbig hfold; have HD := am' hd
 have HBG := am' hbig
 have IH := am' ih
 have HINV := am' hinv
 have HFR := am' hfr
 have HL := am' hl
 have HFO := am' hfold
 have HBB := am' (Below.refl B w)
 clear ih hinv hfr hl hfold hd hbig; have hinfo := am' (show (Try.prog.info? 3).map (fun i => (i.zero, i.size, i.bytes)) = some (some (.int .i64 0), 1, 8) by kernel_rfl)
 go_enter Try.func118, Try.ntmps118
 go_wp2
 go_loopg [8] (people.length - f) (fun gg v8 wr => ∃ (i : Nat) (s1 : σ) (O1 : Nat → Prop), v8 = .int .i64 i ∧ i ≤ people.length ∧ f ≤ i ∧ people.length - i ≤ gg ∧ Aside0 ((grpsF most (people.drop i) l).foldlM step s1 = some s') ∧ Aside0 (Inv s1 wr O1) ∧ Aside0 (GFr wr O1 g lb people most A c p0 p1 p2 p3) ∧ Aside0 (Kd.F (Kd.int .i64) wr (fun k => ¬ O1 k) Al l.length l) ∧ Aside0 (Below B w wr) ∧ Aside0 (Kept w wr O) ∧ Aside0 (∀ k, O1 k → O k ∨ w.heap.size ≤ k))
 case atStart => exact ⟨f, s, O, rfl, hf, Nat.le_refl _, Nat.le_refl _, HFO, HINV, HFR, HL, HBB, ⟨Kept.refl _ _⟩, ⟨fun _ h => .inl h⟩⟩
 case round =>
  obtain ⟨i, s1, O1, rfl, hi, hfi, hg, HF1, HI1, HG1, HL1, HB1, HK1, HO1⟩ := hrel
  have x0 : wr.cell? ⟨p0, 0, none⟩ = some (.slice A people.length c) := (blk_cell HG1.out.h0 0).trans rfl
  have x1 : wr.cell? ⟨p1, 0, none⟩ = some (.int .i64 most) := (blk_cell HG1.out.h1 0).trans rfl
  have x2 : wr.cell? ⟨p2, 0, none⟩ = some (.func (.func g) #[] lb) := (blk_cell HG1.out.h2 0).trans rfl
  have x3 : wr.cell? ⟨p3, 0, none⟩ = some (.func (.func 118) #[] #[.pointer (some ⟨p0, 0, none⟩), .pointer (some ⟨p1, 0, none⟩), .pointer (some ⟨p2, 0, none⟩), .pointer (some ⟨p3, 0, none⟩)]) := (blk_cell HG1.out.h3 0).trans rfl
  by_cases hlt : i < people.length
  ·
   by_cases hm : (l.length : Int) < most
   ·
    have hltz : (i : Int) < (people.length : Int) := by omega
    have hdz := decide_eq_true hltz
    have hdm := decide_eq_true hm
    obtain ⟨ad, e0, hx0⟩ := Kd.at_int (Kd.F_now HG1.out.hF) (i : Int) (by omega) hltz
    cases e0
    rw [Int.toNat_natCast] at hx0
    generalize hxx : rd people i = x at hx0
    have HX := am' hxx
    clear hxx; have HCL := am' (show slices_Clone_int_int.f l = some l from if_pos (by have := HBG.out; omega))
    have HHB := am' (Below.refl wr.heap.size wr)
    go_wp2_with fail
    go_region_held3? (fun w' => w'.cell? ⟨p0, 0, none⟩ = some (.slice (some ad) people.length c) ∧ w'.cell? (ad.add i) = some (.int .i64 x))
     (first | exact ⟨z0, z1⟩ | exact ⟨y0, y1⟩ | go_keep)
     (first | ((refine Kd.R_append_rows_step (Kd.int .i64) (w0 := wr) wr.heap.size (by rfl) (.tmp 24) (.tmp 29) 22 3 (.int .i64 0) 8 (by rfl) Try.underlying22 hinfo.out rfl (by decide) (by omega) vc l [x] (some ⟨_, 0, none⟩) 1 1 (fun _ => True) (fun _ => False) (by rfl) (by rfl) ?aO ?aR (fun _ _ h => h) (fun _ h => h.elim) (fun _ _ => trivial) ?aB ?aS ?aL ?_; (case aR => first | exact C_one (heap_alloc_new _ _) | exact C_one ((HB2.out.block _ (by simp)).trans (heap_alloc_new _ _))); (case aO => (with_reducible repeat (first | apply ra' | apply rn' | apply rw')); exact HO2.out); (case aB => repeat (first | (with_reducible first | exact HHB2.out | apply ba' | apply bd' | apply be') | exact HHB2.out)); (case aS => exact below_size (by repeat (first | (with_reducible first | exact HHB2.out | apply ba' | apply bd' | apply be') | exact HHB2.out))); (case aL => have := HBG.out; omega); intro v3 w3 ho hb hg hat; have HO3 := am' ho; have HB3 := am' hb; clear ho hb hg hat; have z0 := (HB3.out.cell (bl' wr _ x0)).trans x0; have z1 := (HB3.out.cell (bl' wr _ hx0)).trans hx0)) | ((go_at_call 105; refine (slices_Clone_int_int.calls Al cl l l _ ?_ hlc HCL.out).mono ?_; (repeat (first | exact Kd.F_now HL1.out | refine ca' ?_ _ | refine cd' ?_ | refine cn' ?_ _)); rintro e w2 ⟨vc, rfl, ho, hb⟩; have HHB2 := am' (below_step (by repeat (first | (with_reducible first | exact HHB.out | apply ba' | apply bd' | apply be') | exact HHB.out)) hb); have HO2 := am' (Kd.R_lower ho (below_size (by repeat (first | (with_reducible first | exact HHB.out | apply ba' | apply bd' | apply be') | exact HHB.out)))); have HB2 := am' hb; clear hb ho; have y0 := (HHB2.out.cell (bl' wr _ x0)).trans x0; have y1 := (HHB2.out.cell (bl' wr _ hx0)).trans hx0)))
    all_goals
     have HB1' := am' (HB1.out.trans (HB3.out.mono (Nat.le_trans hB HB1.out.size)))
     have HG3 := am' (HG1.out.kept (O' := O1) (Kept.of_below HB3.out O1) (fun _ h => .inl h))
     have HL3 := am' (F_turn (O' := O1) HL1.out (Kept.of_below HB3.out O1) (fun _ h => .inl h))
     obtain ⟨A3, c3, hv3, hlc3, hC3⟩ := Kd.R_reads HO3.out
     have HF3 := am' (show Kd.F (Kd.int .i64) w3 (fun k => ¬ O1 k) A3 (l ++ [x]).length (l ++ [x]) from Kd.F_mono (Kd.R_F (Kd.R_bound (hv3 ▸ HO3.out))) (fun k q h => by have := HI _ _ _ HI1.out k h; have := q.2.1; omega))
     have HK3 := am' (HK1.out.then_ (Kept.of_below HB3.out O1) HO1.out)
     have hdrop : people.drop i = x :: people.drop (i + 1) := by
      rw [List.drop_eq_getElem_cons hlt]
      congr 1
      rw [← HX.out]
      simp [rd, List.getD_eq_getElem?_getD, List.getElem?_eq_getElem hlt]
     have hf1 := HF1.out
     rw [hdrop, grpsF, if_pos hm, List.foldlM_cons] at hf1
     obtain ⟨s2, hs2, hf1⟩ := Option.bind_eq_some_iff.mp hf1
     rw [List.foldlM_append] at hf1
     obtain ⟨s3, hs3, hf1⟩ := Option.bind_eq_some_iff.mp hf1
     have HE2 := am' (HE s1 s2 O1 wr w3 v3 (l ++ [x]) HI1.out HB3.out HO3.out hs2)
     have HS3 := am' hs3
     have HF2 := am' hf1
     have HLC3 := am' hlc3
     have HN3 := am' (show (l ++ [x]).length = l.length + 1 by simp)
     clear hC3; generalize l ++ [x] = l2 at HO3 HF3 HE2 HS3 HLC3 HN3 hv3 hs2 hs3 hlc3
     subst hv3; clear HB3 HG1 HL1 HK1 HB1 hdrop hs2 hs3 hf1 hlc3; have e2 : w3.cell? ⟨p2, 0, none⟩ = some (.func (.func g) #[] lb) := (blk_cell HG3.out.h2 0).trans rfl
     go_wp2_with fail
     refine HE2.out.mono ?_
     rintro e w4 ⟨rfl, hb4, O2, hi4, hk4, ho4⟩
     have HG4 := am' (HG3.out.kept hk4 ho4)
     have HL4 := am' (F_turn HL3.out hk4 ho4)
     have HF4 := am' (F_turn HF3.out hk4 ho4)
     have HK4 := am' (HK3.out.then_ hk4 HO1.out)
     have HI4 := am' hi4
     have HB4 := am' (HB1'.out.trans hb4)
     have HO4 := am' (show ∀ k, O2 k → O k ∨ w.heap.size ≤ k from fun k h => by
      rcases ho4 k h with q | q
      ·
       exact HO1.out k q
      ·
       have := HK3.out.1; exact .inr (by omega))
     have hrec := IH.out (people.length - (i + 1)) (by have := HD.out; omega) (i + 1) s2 s3 O2 w4 A3 c3 l2 (Nat.le_refl _) (by omega) (Nat.le_trans hB HB4.out.size) hi4 HG4.out HF4.out HLC3.out (by have := HBG.out; have := HN3.out; omega) HS3.out
     rw [show ((i + 1 : Nat) : Int) = (i : Int) + 1 from rfl] at hrec
     have HREC := am' hrec
     clear hrec hb4 hi4 hk4 ho4 HE2 HG3 HL3 HF3 HK3 HB1' e2 x0 x1 x2 x3 hx0; have e3 : w4.cell? ⟨p3, 0, none⟩ = some (.func (.func 118) #[] #[.pointer (some ⟨p0, 0, none⟩), .pointer (some ⟨p1, 0, none⟩), .pointer (some ⟨p2, 0, none⟩), .pointer (some ⟨p3, 0, none⟩)]) := (blk_cell HG4.out.h3 0).trans rfl
     go_wp2_with (go_at_call 118; refine HREC.out.mono ?_; rintro e w5 ⟨rfl, hb5, O3, hi5, hk5, ho5⟩)
     go_roundg (people.length - (i + 1))
     case measure => omega
     case rel =>
      refine ⟨i + 1, s3, O3, by go_num, by omega, by omega, Nat.le_refl _, HF2, ⟨hi5⟩, ⟨HG4.out.kept hk5 ho5⟩, ⟨F_turn HL4.out hk5 ho5⟩, ⟨HB4.out.trans hb5⟩, ⟨HK4.out.then_ hk5 HO4.out⟩, ⟨fun k h => ?_⟩⟩
      rcases ho5 k h with q | q
      ·
       exact HO4.out k q
      ·
       have := HK4.out.1; exact .inr (by omega)
   ·
    have hdm := decide_eq_false hm
    have hltz : (i : Int) < (people.length : Int) := by omega
    have hdz := decide_eq_true hltz
    go_wp2
    go_end0
    refine ⟨rfl, HB1.out, O1, ?_, HK1.out, HO1.out⟩
    have hf1 := HF1.out
    rw [List.drop_eq_getElem_cons hlt, grpsF, if_neg (by omega)] at hf1
    cases hf1
    exact HI1.out
  ·
   have hnl : ¬ (i : Int) < (people.length : Int) := by omega
   have hdz := decide_eq_false hnl
   go_wp2
   go_end0
   refine ⟨rfl, HB1.out, O1, ?_, HK1.out, HO1.out⟩
   have hf1 := HF1.out
   rw [List.drop_eq_nil_of_le (by omega), grpsF] at hf1
   cases hf1
   exact HI1.out
set_option maxHeartbeats 2000000 in
set_option maxRecDepth 100000 in
theorem groups_any (HE : EachOk B g lb Inv step) (HI : ∀ s W O, Inv s W O → ∀ k, O k → B ≤ k ∧ k < W.heap.size) (eg : ∀ args w, (callFunc g args).run Try.prog w = .ok (.enter g args) w)
  (people : List Int) (most : Int) (A : Option Addr) (c : Nat) (hpc : people.length ≤ c) (hpl : people.length ≤ 1048576) (s s' : σ) (O : Nat → Prop) (w : World) (hB : B ≤ w.heap.size) (hinv : ∀ W, Below w.heap.size w W → Inv s W O) (hpe : Kd.F (Kd.int .i64) w (fun k => ¬ O k) A people.length people)
  (hfold : (grpsF most people []).foldlM step s = some s') :
  Calls Try.prog 100 #[.slice A people.length c, .int .i64 most, .func (.func g) #[] lb] w (CbPost B Inv s' O w) := by
 have HINV := am' hinv
 have HPE := am' hpe
 have HFO := am' hfold
 clear hinv hpe hfold; have ho : ∀ k, O k → k < w.heap.size := fun k h => (HI _ _ _ (HINV.out w (Below.refl _ _)) k h).2
 have HO := am' ho
 clear ho; go_enter Try.func100, Try.ntmps100
 go_wp2_with fail
 obtain ⟨b0, b1, b2, b3, hb4⟩ := four_blocks w (.cells #[.slice A people.length c] 22) (.cells #[.int .i64 most] 3) (.cells #[.func (.func g) #[] lb] 109) (.cells #[.func (.func 118) #[] #[.pointer (some ⟨w.heap.size, 0, none⟩), .pointer (some ⟨w.heap.size + 1, 0, none⟩), .pointer (some ⟨w.heap.size + 1 + 1, 0, none⟩), .pointer (some ⟨w.heap.size + 1 + 1 + 1, 0, none⟩)]] 126)
 have hpe4 := Kd.F_below HPE.out hb4
 have hin4 := HINV.out _ hb4
 generalize (((w.alloc (.cells #[.slice A people.length c] 22)).alloc (.cells #[.int .i64 most] 3)).alloc (.cells #[.func (.func g) #[] lb] 109)).alloc (.cells #[.func (.func 118) #[] #[.pointer (some ⟨w.heap.size, 0, none⟩), .pointer (some ⟨w.heap.size + 1, 0, none⟩), .pointer (some ⟨w.heap.size + 1 + 1, 0, none⟩), .pointer (some ⟨w.heap.size + 1 + 1 + 1, 0, none⟩)]] 126) = W4 at *
 have hsz := hb4.size
 have hcall := on_any HE HI eg people most A c (w.heap.size) (w.heap.size + 1) (w.heap.size + 1 + 1) (w.heap.size + 1 + 1 + 1) hpc hpl people.length 0 s s' O W4 none 0 [] (by omega) (by omega) (by omega) hin4
  ⟨b0, b1, b2, b3, fun h => by have := HO.out _ h; omega, fun h => by have := HO.out _ h; omega, fun h => by have := HO.out _ h; omega, fun h => by have := HO.out _ h; omega, hpe4⟩ (Kd.F_nil _ _ _) (Nat.le_refl _) (by simp; omega) HFO.out
 rw [show ((0 : Nat) : Int) = 0 from rfl, show ([] : List Int).length = 0 from rfl] at hcall
 refine hcall.mono ?_
 rintro e w5 ⟨rfl, hb5, O3, hi5, hk5, ho5⟩
 go_wp2
 go_end0
 refine ⟨rfl, (hb4.mono hB).trans hb5, O3, hi5, (Kept.of_below hb4 O).then_ hk5 (fun k h => .inl h), fun k h => ?_⟩
 rcases ho5 k h with q | q
 ·
  exact .inl q
 ·
  exact .inr (by omega)
end
def OutInv (B bo : Nat) (s : List (List Int)) (W : World) (O : Nat → Prop) : Prop :=
 ∃ v, W.heap[bo]? = some (.cells #[v] 47 (0, 0)) ∧ B ≤ bo ∧ Kd.S (Kd.slice 3 (Kd.int .i64)) 22 W B (fun k => k ≠ bo) v s ∧ O = (fun k => k = bo ∨ some k = v.ownBlock)
def pushS (s : List (List Int)) (l : List Int) : Option (List (List Int)) := if s.length < 1099511627776 then some (s ++ [l]) else none
theorem OutInv.lt {B bo : Nat} (s : List (List Int)) (W : World) (O : Nat → Prop) (h : OutInv B bo s W O) : ∀ k, O k → B ≤ k ∧ k < W.heap.size := by
 obtain ⟨v, hb, hB, hS, rfl⟩ := h
 rintro k (rfl | hk)
 ·
  exact ⟨hB, blk_lt hb⟩
 ·
  exact ⟨Kd.S_base hS k hk.symm, Kd.S_lt hS k hk.symm⟩
theorem OutInv.below {B bo : Nat} {s : List (List Int)} {W W1 : World} {O : Nat → Prop} (h : OutInv B bo s W O) (hb : Below W.heap.size W W1) : OutInv B bo s W1 O := by
 obtain ⟨v, h1, h2, h3, h4⟩ := h
 exact ⟨v, blk_below h1 hb, h2, Kd.S_below h3 hb, h4⟩
theorem grpsF_len (m : Int) : ∀ (r l : List Int), (grpsF m r l).length + 1 ≤ 2 ^ r.length := by
 intro r; induction r with
 | nil => intro l; simp [grpsF]
 | cons x r ih =>
  intro l; simp only [grpsF]
  split
  ·
   have h1 := ih (l ++ [x]); have h2 := ih l
   simp only [List.length_cons, List.length_append, Nat.pow_succ]
   omega
  ·
   have : 0 < 2 ^ (x :: r).length := Nat.pow_pos (by omega)
   simp only [List.length_nil]; omega
def impl_State_side.l0 : Nat → Bool → List Int → List Bool → Int → Int → Option (List Int)
 | 0, _, _, _, _, _ => none
 | k + 1, x1, x5, x10, x11, x12 => if x12 < x11 then (if 0 ≤ x12 then (if x12 < (x10.length : Int) then (if ((rdOf false x10 x12) == x1) = true then (if x5.length < 17592186044416 then (impl_State_side.l0 k x1 (x5 ++ [x12]) x10 x11 (wrap64 (x12 + 1))) else (none)) else (impl_State_side.l0 k x1 x5 x10 x11 (wrap64 (x12 + 1)))) else (none)) else (none)) else (some x5)
def impl_State_side.f (k : Nat) (l0_0 : List Bool) (a0_1 : Bool) (a1 : Bool) : Option (List Int) := impl_State_side.l0 k a1 (([] : List Int)) l0_0 (l0_0.length : Int) 0
set_option maxHeartbeats 8000000 in
set_option maxRecDepth 100000 in
theorem impl_State_side.calls (k : Nat) (A0_0 : Option Addr) (c0_0 : Nat) (l0_0 : List Bool) (a0_1 : Bool) (a1 : Bool) (r : List Int) (w : World) (hr0_0 : Kd.C Kd.bool w A0_0 l0_0.length l0_0) (hc0_0 : l0_0.length ≤ c0_0) (h : impl_State_side.f k l0_0 a0_1 a1 = some r) :
  Calls Try.prog 101 #[.agg #[.slice A0_0 l0_0.length c0_0, .bool a0_1], .bool a1] w fun e w' => ∃ v0_ : Value, e = .returned (v0_) ∧ Kd.R (Kd.int .i64) 3 w' w.heap.size (fun _ => True) v0_ r ∧ Below w.heap.size w w' := by
 have hu38 := Try.underlying38
 have HR0_0 := am' hr0_0
 have HC0_0 := am' hc0_0
 clear hr0_0 hc0_0; have HB := am' (Below.refl w.heap.size w)
 have H : (impl_State_side.l0 k a1 (([] : List Int)) l0_0 (l0_0.length : Int) 0) = some r := h
 clear h; obtain ⟨y277, hy277⟩ : ∃ y_ : List Int, y_ = (([] : List Int)) := ⟨_, rfl⟩
 replace H : (impl_State_side.l0 k a1 y277 l0_0 (l0_0.length : Int) 0) = some r := by first | (rw [hy277]; with_reducible exact H) | (have H2_ := (Option.bind_some _ _).symm.trans H; rw [hy277]; with_reducible exact H2_) | (have H2_ := (Option.bind_some _ _).symm.trans H; with_reducible exact H2_) | with_reducible exact H | (rw [hy277]; exact H) | exact H
 have Ny277 := am' hy277
 clear hy277; have H' := am' H
 clear H; go_enter Try.func101, Try.ntmps101
 go_wp2_with (first | ((with_reducible refine gate_dst (N := 2) rfl ?_); refine box_event ?hg (N := 2) ?hd (cs := #[.slice A0_0 l0_0.length c0_0, .bool a0_1]) (t := 38) ?hr ?_; (case hd => rfl); (case hg => rfl); (case hr => first | (go_simp; done) | (go_simp; rfl)); intro gb276 hg w3 hbox hb; have n0_ := am' (below_step (by repeat (first | (with_reducible first | exact HB.out | apply ba' | apply bd' | apply be') | exact HB.out)) hb); have n1_ := am' (hbox); have n2_ := am' ((by rw [hg]; exact (below_size (by repeat (first | (with_reducible first | exact HB.out | apply ba' | apply bd' | apply be') | exact HB.out))) : w.heap.size ≤ gb276)); have n3_ := am' ((by rw [hg]; exact (below_size (by repeat (first | (with_reducible first | exact HB.out | apply ba' | apply bd' | apply be') | exact HB.out))) : w.heap.size ≤ gb276)); clear HB; have HB := n0_; have BK276 := n1_; have GW276 := n2_; have GE276 := n3_; clear n0_ n1_ n2_ n3_; clear hb hbox hg) | ((with_reducible refine gate_dst (N := 8) rfl ?_); refine Kd.R_lit (Kd.int .i64) _ 3 ?hg (N := 8) ?hd (xs := ([] : List Int)) (inner := []) (ok := fun _ => True) (okp := fun _ => True) ?hr ?hp (fun _ hk => hk) trivial (Below.refl _ _) (Nat.le_refl _) (by simp) ?_; (case hd => rfl); (case hg => rfl); (case hr => first | (go_simp; done) | (go_simp; rfl)); (case hp => exact (Reps.none _ _)); intro v278 w4 ho5 hb hg_ hnew_; clear hg_ hnew_; (first | rw [← Ny277.out] at ho5 | (simp only [Int.reduceToNat] at ho5; rw [← Ny277.out] at ho5)); have n0_ := am' (Kd.R_lower ho5 (below_size (by repeat (first | (with_reducible first | exact HB.out | apply ba' | apply bd' | apply be' | refine bs' ?_ GE276.out) | exact HB.out)))); have n1_ := am' (blk_below (g := gb276) (o := .cells #[.slice A0_0 l0_0.length c0_0, .bool a0_1] 38 (0, 0)) (by (with_reducible repeat (first | refine kn' ?_ _ | refine kd' ?_ | refine ka' ?_ _)); exact BK276.out) hb); have n2_ := am' (below_step (by repeat (first | (with_reducible first | exact HB.out | apply ba' | apply bd' | apply be' | refine bs' ?_ GE276.out) | exact HB.out)) hb); clear BK276; clear HB; have HO279 := n0_; have BK276 := n1_; have HB := n2_; clear n0_ n1_ n2_; clear hb ho5; have hcz6_0 : w4.cell? ⟨gb276, 0, none⟩ = some (.slice A0_0 l0_0.length c0_0) := (blk_cell BK276.out 0).trans rfl; have hcz6_1 : w4.cell? ⟨gb276, 1, none⟩ = some (.bool a0_1) := (blk_cell BK276.out 1).trans rfl; have hfz6_0 := blk_frozen BK276.out 0; have hfz6_1 := blk_frozen BK276.out 1))
 go_loopg [5, 12] k (fun kq v5 v12 w' => ∃ (x5_1 : List Int) (x12_1 : Int), v12 = .int .i64 x12_1 ∧ Aside0 (impl_State_side.l0 kq a1 x5_1 l0_0 (l0_0.length : Int) x12_1 = some r) ∧ Aside0 (kq ≤ k) ∧ Aside0 (Kd.R (Kd.int .i64) 3 w' w.heap.size (fun _ => True) v5 x5_1) ∧ Aside0 (w'.heap[gb276]? = some (.cells #[(.slice A0_0 l0_0.length c0_0), .bool a0_1] 38 (0, 0))) ∧ Aside0 (Below w.heap.size w w'))
 case atStart => exact ⟨(y277), (0), (by first | rfl | (simp; done) | (simp [*]; done)), H', ⟨Nat.le_refl _⟩, ⟨by (with_reducible repeat (first | apply ra' | apply rn' | apply rw')); exact HO279.out⟩, ⟨by (with_reducible repeat (first | refine kn' ?_ _ | refine kd' ?_ | refine ka' ?_ _)); exact BK276.out⟩, ⟨by repeat (first | (with_reducible first | exact HB.out | apply ba' | apply bd' | apply be' | refine bs' ?_ GE276.out) | exact HB.out)⟩⟩
 case round =>
  clear H'; try clear c1
  try clear p2
  try clear hcz6_0
  try clear hcz6_1
  try clear hfz6_0
  try clear hfz6_1
  obtain ⟨x5_1, x12_1, rfl, HA, HK1, HO_5, BK276, HB⟩ := hrel
  cases gk with
  | zero => exact absurd HA.out (by simp [impl_State_side.l0])
  | succ k1 =>
   have H := HA.out
   clear HA; simp only [impl_State_side.l0] at H
   by_cases c7 : x12_1 < (l0_0.length : Int)
   ·
    rw [if_pos c7] at H; have c7b0 : decide (x12_1 < (l0_0.length : Int)) = true := decide_eq_true c7
    clear c7; by_cases c8 : 0 ≤ x12_1
    ·
     rw [if_pos c8] at H; have c8b0 : decide (0 ≤ x12_1) = true := decide_eq_true c8
     clear c8; by_cases c9 : x12_1 < (l0_0.length : Int)
     ·
      rw [if_pos c9] at H; have c9b0 : decide (x12_1 < (l0_0.length : Int)) = true := decide_eq_true c9
      clear c9; by_cases c10 : ((rdOf false l0_0 x12_1) == a1) = true
      ·
       rw [if_pos c10] at H; have c10b0 : ((rdOf false l0_0 x12_1) == a1) = true := c10
       (try (have c10b1 : decide ((rdOf false l0_0 x12_1) = a1) = true := by simpa using c10))
       (try (have c10b2 : ((rdOf false l0_0 x12_1) == a1) = true := by simpa using c10))
       clear c10; by_cases c11 : x5_1.length < 17592186044416
       ·
        rw [if_pos c11] at H; have LMc11 := am' c11
        clear c11; obtain ⟨y281, hy281⟩ : ∃ y_ : List Int, y_ = (x5_1 ++ [x12_1]) := ⟨_, rfl⟩
        replace H : (impl_State_side.l0 k1 a1 y281 l0_0 (l0_0.length : Int) (wrap64 (x12_1 + 1))) = some r := by first | (rw [hy281]; with_reducible exact H) | (have H2_ := (Option.bind_some _ _).symm.trans H; rw [hy281]; with_reducible exact H2_) | (have H2_ := (Option.bind_some _ _).symm.trans H; with_reducible exact H2_) | with_reducible exact H | (rw [hy281]; exact H) | exact H
        have Ny281 := am' hy281
        clear hy281; have H' := am' H
        clear H; have p280 : 0 ≤ (x12_1 : Int) := of_decide_eq_true (by first | (with_reducible assumption) | assumption)
        have q280 : x12_1 < (l0_0.length : Int) := of_decide_eq_true (by first | (with_reducible assumption) | assumption)
        obtain ⟨ad280, e280, hx280_0⟩ := Kd.at_bool HR0_0.out x12_1 p280 q280
        cases e280
        replace hx280_0 := (HB.out.cell (bl' w _ hx280_0)).trans hx280_0
        replace p280 := eq_true p280
        replace q280 := eq_true q280
        go_wp2_with (first | ((with_reducible refine gate_builtin (b := .append) (xs := #[.tmp 20, .tmp 22]) rfl ?_); at_builtin; refine Kd.R_append (Kd.int .i64) (w0 := w) w.heap.size rfl (.tmp 20) (.tmp 22) 22 3 (.int .i64 0) 8 rfl Try.underlying22 info3 rfl (by decide) (by omega) u5 x5_1 x12_1 [.int .i64 x12_1] (fun _ => True) (fun _ => False) rfl rfl ?aP (fun _ hk => hk.elim) ?aF ?aO ?aB ?aS ?aL ?_; (case aP => exact rfl); (case aB => exact (by repeat (first | (with_reducible first | exact HB.out | apply ba' | apply bd' | apply be' | refine bs' ?_ GE276.out) | exact HB.out))); (case aF => exact (fun _ _ => trivial)); (case aO => exact (by (with_reducible repeat (first | apply ra' | apply rn' | apply rw')); exact HO_5.out)); (case aS => exact (below_size (by repeat (first | (with_reducible first | exact HB.out | apply ba' | apply bd' | apply be' | refine bs' ?_ GE276.out) | exact HB.out)))); (case aL => have := LMc11.out; omega); intro v282 w12 ho hb hg hat; rw [← Ny281.out] at ho; have n0_ := am' (blk_grown (g := gb276) (o := .cells #[.slice (some ad280) l0_0.length c0_0, .bool a0_1] 38 (0, 0)) (by (with_reducible repeat (first | refine kn' ?_ _ | refine kd' ?_ | refine ka' ?_ _)); exact BK276.out) hg (Kd.R_ne HO_5.out BK276.out (by decide))); have n1_ := am' (hb); have n2_ := am' (ho); clear BK276; clear HB; clear HO_5; have BK276 := n0_; have HB := n1_; have HO283 := n2_; clear n0_ n1_ n2_; clear ho hb hg hat))
        go_roundg k1
        case measure => have := HK1.out; omega
        case rel => exact ⟨(y281), (wrap64 (x12_1 + 1)), (by first | rfl | (simp; done) | (simp [*]; done)), H', ⟨by have := HK1.out; omega⟩, ⟨by (with_reducible repeat (first | apply ra' | apply rn' | apply rw')); exact HO283.out⟩, ⟨by (with_reducible repeat (first | refine kn' ?_ _ | refine kd' ?_ | refine ka' ?_ _)); exact BK276.out⟩, ⟨by repeat (first | (with_reducible first | exact HB.out | apply ba' | apply bd' | apply be' | refine bs' ?_ GE276.out) | exact HB.out)⟩⟩
       ·
        rw [if_neg c11] at H; exact absurd H (by simp)
      ·
       rw [if_neg c10] at H; have c10b0 : ((rdOf false l0_0 x12_1) == a1) = false := by simpa using c10
       (try (have c10b1 : decide ((rdOf false l0_0 x12_1) = a1) = false := by simpa using c10))
       (try (have c10b2 : ((rdOf false l0_0 x12_1) == a1) = false := by simpa using c10))
       (try (have c10b3 : ¬ ((rdOf false l0_0 x12_1) = a1) := by simpa using c10))
       clear c10; have H' := am' H
       clear H; have p280 : 0 ≤ (x12_1 : Int) := of_decide_eq_true (by first | (with_reducible assumption) | assumption)
       have q280 : x12_1 < (l0_0.length : Int) := of_decide_eq_true (by first | (with_reducible assumption) | assumption)
       obtain ⟨ad280, e280, hx280_0⟩ := Kd.at_bool HR0_0.out x12_1 p280 q280
       cases e280
       replace hx280_0 := (HB.out.cell (bl' w _ hx280_0)).trans hx280_0
       replace p280 := eq_true p280
       replace q280 := eq_true q280
       go_wp2
       go_roundg k1
       case measure => have := HK1.out; omega
       case rel => exact ⟨(x5_1), (wrap64 (x12_1 + 1)), (by first | rfl | (simp; done) | (simp [*]; done)), H', ⟨by have := HK1.out; omega⟩, ⟨by (with_reducible repeat (first | apply ra' | apply rn' | apply rw')); exact HO_5.out⟩, ⟨by (with_reducible repeat (first | refine kn' ?_ _ | refine kd' ?_ | refine ka' ?_ _)); exact BK276.out⟩, ⟨by repeat (first | (with_reducible first | exact HB.out | apply ba' | apply bd' | apply be' | refine bs' ?_ GE276.out) | exact HB.out)⟩⟩
     ·
      rw [if_neg c9] at H; exact absurd H (by simp)
    ·
     rw [if_neg c8] at H; exact absurd H (by simp)
   ·
    rw [if_neg c7] at H; have c7b0 : decide (x12_1 < (l0_0.length : Int)) = false := decide_eq_false c7
    clear c7; obtain rfl := Option.some.inj H
    go_wp2
    go_ret
    exact ⟨_, by first | rfl | (simp [errW_none, errW_some] <;> rfl) | (simp [*, errW_none, errW_some] <;> rfl), by (with_reducible repeat (first | apply ra' | apply rn' | apply rw')); exact HO_5.out, by repeat (first | (with_reducible first | exact HB.out | apply ba' | apply bd' | apply be' | refine bs' ?_ GE276.out) | exact HB.out)⟩
set_option maxHeartbeats 2000000 in
set_option maxRecDepth 100000 in
theorem carries1_calls (x : Int) (b1 : Nat) (A0 : Option Addr) (n0 c0 : Nat) (A : Option Addr) (c : Nat) (l0 : List Bool) (t : Int) (w : World) (h1 : w.heap[b1]? = some (.cells #[.slice A0 n0 c0, .slice A l0.length c, .int .i64 t] 29 (0, 0))) (hr : Kd.C Kd.bool w A l0.length l0) (hx0 : 0 ≤ x) (hx1 : x < (l0.length : Int)) :
  Calls Try.prog 115 #[.int .i64 x, .pointer (some ⟨b1, 0, none⟩)] w fun e w' => e = .returned (.bool (rdOf false l0 x)) ∧ Below w.heap.size w w' := by
 obtain ⟨ad, e0, hx⟩ := Kd.at_bool hr x hx0 hx1
 cases e0
 have hs : w.cell? ⟨b1, 1, none⟩ = some (.slice (some ad) l0.length c) := (blk_cell h1 1).trans rfl
 have hbig := hr.2.1
 have p0 := eq_true hx0
 have p1 := eq_true hx1
 clear hr h1 hx0 hx1; go_enter Try.func115, Try.ntmps115
 go_wp2
 go_ret
 exact ⟨rfl, Below.refl _ _⟩
theorem carries_pred (b1 : Nat) (A0 : Option Addr) (n0 c0 : Nat) (A : Option Addr) (c : Nat) (l0 : List Bool) (t : Int) (xs : List Int) (w : World) (h1 : w.heap[b1]? = some (.cells #[.slice A0 n0 c0, .slice A l0.length c, .int .i64 t] 29 (0, 0))) (hr : Kd.C Kd.bool w A l0.length l0) (hx : ∀ x ∈ xs, 0 ≤ x ∧ x < (l0.length : Int)) :
  PredOn 115 #[.pointer (some ⟨b1, 0, none⟩)] (fun x => rdOf false l0 x) xs w := fun x hm W hb =>
 carries1_calls x b1 A0 n0 c0 A c l0 t W ((hb.block _ (blk_lt h1)).trans h1) (Kd.C_below hr hb) (hx x hm).1 (hx x hm).2
def impl_Crew_carries.f (k : Nat) (l0_0 : List Int) (l0_1 : List Bool) (a0_2 : Int) (l1 : List Int) : Option Bool := (impl_Crew_load.f k l0_0 l0_1 a0_2 l1).bind fun t => if t ≤ a0_2 then (if l1.all (fun x => decide (0 ≤ x) && decide (x < (l0_1.length : Int))) then some (l1.any fun x => rdOf false l0_1 x) else none) else some false
set_option maxHeartbeats 2000000 in
set_option maxRecDepth 100000 in
theorem impl_Crew_carries.calls (k : Nat) (A0_0 : Option Addr) (c0_0 : Nat) (l0_0 : List Int) (A0_1 : Option Addr) (c0_1 : Nat) (l0_1 : List Bool) (a0_2 : Int) (A1 : Option Addr) (c1 : Nat) (l1 : List Int) (r : Bool) (w : World) (hr0_0 : Kd.C (Kd.int .i64) w A0_0 l0_0.length l0_0) (hc0_0 : l0_0.length ≤ c0_0) (hr0_1 : Kd.C Kd.bool w A0_1 l0_1.length l0_1) (hc0_1 : l0_1.length ≤ c0_1) (hr1 : Kd.C (Kd.int .i64) w A1 l1.length l1) (hc1 : l1.length ≤ c1) (h : impl_Crew_carries.f k l0_0 l0_1 a0_2 l1 = some r) :
  Calls Try.prog 95 #[.agg #[.slice A0_0 l0_0.length c0_0, .slice A0_1 l0_1.length c0_1, .int .i64 a0_2], .slice A1 l1.length c1] w fun e w' => e = .returned (.bool r) ∧ Below w.heap.size w w' := by
 unfold impl_Crew_carries.f at h
 obtain ⟨t, ht, h⟩ := Option.bind_eq_some_iff.mp h
 have HL := am' (fun (w1 : World) (h1 : Below w.heap.size w w1) => impl_Crew_load.calls k A0_0 c0_0 l0_0 A0_1 c0_1 l0_1 a0_2 A1 c1 l1 t w1 (Kd.C_below hr0_0 h1) hc0_0 (Kd.C_below hr0_1 h1) hc0_1 (Kd.C_below hr1 h1) hc1 ht)
 have hu := Try.underlying29
 clear ht; by_cases hle : t ≤ a0_2
 ·
  rw [if_pos hle] at h
  obtain ⟨hin, rfl⟩ : (∀ x ∈ l1, 0 ≤ x ∧ x < (l0_1.length : Int)) ∧ (l1.any fun x => rdOf false l0_1 x) = r := by
   by_cases hc : l1.all (fun x => decide (0 ≤ x) && decide (x < (l0_1.length : Int))) = true
   ·
    rw [if_pos hc] at h; refine ⟨fun x hx => ?_, Option.some.inj h⟩
    have := List.all_eq_true.1 hc x hx
    simpa using this
   ·
    rw [if_neg hc] at h; cases h
  have HC := am' (fun (w1 : World) (h1 : Below w.heap.size w w1) (b1 : Nat) (e1 : w1.heap[b1]? = some (.cells #[.slice A0_0 l0_0.length c0_0, .slice A0_1 l0_1.length c0_1, .int .i64 a0_2] 29 (0, 0))) =>
   ContainsFunc_any 115 #[.pointer (some ⟨b1, 0, none⟩)] (fun x => rdOf false l0_1 x) (enters_of Try.func115 (by kernel_rfl) rfl) A1 c1 l1 w1 (Kd.C_below hr1 h1) hc1 hr1.2.1 (carries_pred b1 A0_0 l0_0.length c0_0 A0_1 c0_1 l0_1 a0_2 l1 w1 e1 (Kd.C_below hr0_1 h1) hin))
  clear hr0_0 hr0_1 hr1 h hin; have d0 := decide_eq_true hle
  clear hle; go_enter Try.func95, Try.ntmps95
  go_wp2
  have HB1 := am' (ba' (Below.refl w.heap.size w) (.cells #[.slice A0_0 l0_0.length c0_0, .slice A0_1 l0_1.length c0_1, .int .i64 a0_2] 29))
  have G1 := am' (heap_alloc_new w (.cells #[.slice A0_0 l0_0.length c0_0, .slice A0_1 l0_1.length c0_1, .int .i64 a0_2] 29))
  have x0 : (w.alloc (.cells #[.slice A0_0 l0_0.length c0_0, .slice A0_1 l0_1.length c0_1, .int .i64 a0_2] 29)).cell? ⟨w.heap.size, 0, none⟩ = some (.slice A0_0 l0_0.length c0_0) := (blk_cell G1.out 0).trans rfl
  have x1 : (w.alloc (.cells #[.slice A0_0 l0_0.length c0_0, .slice A0_1 l0_1.length c0_1, .int .i64 a0_2] 29)).cell? ⟨w.heap.size, 1, none⟩ = some (.slice A0_1 l0_1.length c0_1) := (blk_cell G1.out 1).trans rfl
  have x2 : (w.alloc (.cells #[.slice A0_0 l0_0.length c0_0, .slice A0_1 l0_1.length c0_1, .int .i64 a0_2] 29)).cell? ⟨w.heap.size, 2, none⟩ = some (.int .i64 a0_2) := (blk_cell G1.out 2).trans rfl
  generalize w.alloc (.cells #[.slice A0_0 l0_0.length c0_0, .slice A0_1 l0_1.length c0_1, .int .i64 a0_2] 29) = w1 at *
  go_region_with (first | (go_at_call 56; refine (HL.out _ ?_).mono ?_; (repeat (first | exact HB1.out | apply be' | apply bd')); rintro e w2 ⟨rfl, hb2⟩; have HB2 := am' (below_then (be' HB1.out) (Nat.le_of_lt (blk_lt G1.out)) hb2); have G2 := am' ((hb2.block _ (blk_lt G1.out)).trans G1.out); have y2 : w2.cell? ⟨w.heap.size, 2, none⟩ = some (.int .i64 a0_2) := (blk_cell G2.out 2).trans rfl; clear hb2) | (go_at_call 111; refine (HC.out _ ?_ _ ?_).mono ?_; (repeat (first | exact HB2.out | apply be' | apply bd')); exact G2.out; rintro e w3 ⟨rfl, hb3⟩; have HB3 := am' (below_then HB2.out (Nat.le_of_lt (blk_lt G2.out)) hb3); clear hb3))
  all_goals (go_wp2; go_ret; exact ⟨rfl, HB3.out⟩)
 ·
  rw [if_neg hle] at h; obtain rfl := Option.some.inj h
  clear hr0_0 hr0_1 hr1 h; have d0 := decide_eq_false hle
  replace hle := eq_false hle
  go_enter Try.func95, Try.ntmps95
  go_wp2
  have HB1 := am' (ba' (Below.refl w.heap.size w) (.cells #[.slice A0_0 l0_0.length c0_0, .slice A0_1 l0_1.length c0_1, .int .i64 a0_2] 29))
  have G1 := am' (heap_alloc_new w (.cells #[.slice A0_0 l0_0.length c0_0, .slice A0_1 l0_1.length c0_1, .int .i64 a0_2] 29))
  have x0 : (w.alloc (.cells #[.slice A0_0 l0_0.length c0_0, .slice A0_1 l0_1.length c0_1, .int .i64 a0_2] 29)).cell? ⟨w.heap.size, 0, none⟩ = some (.slice A0_0 l0_0.length c0_0) := (blk_cell G1.out 0).trans rfl
  have x1 : (w.alloc (.cells #[.slice A0_0 l0_0.length c0_0, .slice A0_1 l0_1.length c0_1, .int .i64 a0_2] 29)).cell? ⟨w.heap.size, 1, none⟩ = some (.slice A0_1 l0_1.length c0_1) := (blk_cell G1.out 1).trans rfl
  have x2 : (w.alloc (.cells #[.slice A0_0 l0_0.length c0_0, .slice A0_1 l0_1.length c0_1, .int .i64 a0_2] 29)).cell? ⟨w.heap.size, 2, none⟩ = some (.int .i64 a0_2) := (blk_cell G1.out 2).trans rfl
  generalize w.alloc (.cells #[.slice A0_0 l0_0.length c0_0, .slice A0_1 l0_1.length c0_1, .int .i64 a0_2] 29) = w1 at *
  first
   | go_region_with ((go_at_call 56; refine (HL.out _ ?_).mono ?_; (repeat (first | exact HB1.out | apply be' | apply bd')); rintro e w2 ⟨rfl, hb2⟩; have HB2 := am' (below_then (be' HB1.out) (Nat.le_of_lt (blk_lt G1.out)) hb2); have G2 := am' ((hb2.block _ (blk_lt G1.out)).trans G1.out); have y2 : w2.cell? ⟨w.heap.size, 2, none⟩ = some (.int .i64 a0_2) := (blk_cell G2.out 2).trans rfl; clear hb2))
   | fail
  all_goals (go_wp2; go_ret; exact ⟨rfl, HB2.out⟩)
def CrewFr (pc : Nat) (A0 : Option Addr) (c0 : Nat) (l0 : List Int) (A1 : Option Addr) (c1 : Nat) (l1 : List Bool) (m : Int) (W : World) (O : Nat → Prop) : Prop :=
 W.heap[pc]? = some (.cells #[.slice A0 l0.length c0, .slice A1 l1.length c1, .int .i64 m] 29 (0, 0)) ∧ ¬ O pc ∧ Kd.F (Kd.int .i64) W (fun k => ¬ O k) A0 l0.length l0 ∧ Kd.F Kd.bool W (fun k => ¬ O k) A1 l1.length l1 ∧ l0.length ≤ c0 ∧ l1.length ≤ c1
theorem CrewFr.turn {pc : Nat} {A0 : Option Addr} {c0 : Nat} {l0 : List Int} {A1 : Option Addr} {c1 : Nat} {l1 : List Bool} {m : Int} {w W : World} {O O' : Nat → Prop} (h : CrewFr pc A0 c0 l0 A1 c1 l1 m w O) (hk : Kept w W O) (ho : ∀ k, O' k → O k ∨ w.heap.size ≤ k) : CrewFr pc A0 c0 l0 A1 c1 l1 m W O' := by
 obtain ⟨h1, h2, h3, h4, h5, h6⟩ := h
 refine ⟨blk_kept h1 hk h2, fun q => ?_, Kd.F_mono (Kd.F_kept (Kd.F_bound h3) hk (fun _ q => q.1)) (fun k q q2 => by rcases ho k q2 with q3 | q3; exact q.1 q3; omega), Kd.F_mono (Kd.F_kept (Kd.F_bound h4) hk (fun _ q => q.1)) (fun k q q2 => by rcases ho k q2 with q3 | q3; exact q.1 q3; omega), h5, h6⟩
 rcases ho _ q with q | q
 ·
  exact h2 q
 ·
  have := blk_lt h1; omega
def crewInv (B bo pc : Nat) (A0 : Option Addr) (c0 : Nat) (l0 : List Int) (A1 : Option Addr) (c1 : Nat) (l1 : List Bool) (m : Int) (s : List (List Int)) (W : World) (O : Nat → Prop) : Prop := OutInv B bo s W O ∧ CrewFr pc A0 c0 l0 A1 c1 l1 m W O
def crewS (k : Nat) (l0 : List Int) (l1 : List Bool) (m : Int) (s : List (List Int)) (l : List Int) : Option (List (List Int)) := (impl_Crew_carries.f k l0 l1 m l).bind fun t => if t = true then pushS s l else some s
set_option maxHeartbeats 2000000 in
set_option maxRecDepth 100000 in
theorem crew1_each (k : Nat) (B bo pc : Nat) (A0 : Option Addr) (c0 : Nat) (l0 : List Int) (A1 : Option Addr) (c1 : Nat) (l1 : List Bool) (m : Int) : EachOk B 102 #[.pointer (some ⟨pc, 0, none⟩), .pointer (some ⟨bo, 0, none⟩)] (crewInv B bo pc A0 c0 l0 A1 c1 l1 m) (crewS k l0 l1 m) := by
 intro s s' O W0 W vl l hinv hbel hR hs; obtain ⟨hout, hfr⟩ := hinv
 have hfr := hfr.turn (O' := O) (Kept.of_below hbel O) (fun _ h => .inl h)
 obtain ⟨Al, cl, rfl, hlc, hC⟩ := Kd.R_reads hR
 unfold crewS at hs
 obtain ⟨t, ht, hs⟩ := Option.bind_eq_some_iff.mp hs
 have HK := am' (fun (W1 : World) (hb : Below W.heap.size W W1) => impl_Crew_carries.calls k A0 c0 l0 A1 c1 l1 m Al cl l t W1 (Kd.C_below (Kd.F_now hfr.2.2.1) hb) hfr.2.2.2.2.1 (Kd.C_below (Kd.F_now hfr.2.2.2.1) hb) hfr.2.2.2.2.2 (Kd.C_below hC hb) hlc ht)
 have x0 : W.cell? ⟨pc, 0, none⟩ = some (.slice A0 l0.length c0) := (blk_cell hfr.1 0).trans rfl
 have x1 : W.cell? ⟨pc, 1, none⟩ = some (.slice A1 l1.length c1) := (blk_cell hfr.1 1).trans rfl
 have x2 : W.cell? ⟨pc, 2, none⟩ = some (.int .i64 m) := (blk_cell hfr.1 2).trans rfl
 have hu := Try.underlying29
 have HFR := am' hfr
 have HOUT := am' hout
 have HBEL := am' hbel
 have HR0 := am' hR
 clear hfr hout hbel hR hC hlc ht; cases t with
 | false =>
  simp only [Bool.false_eq_true, if_false, Option.some.injEq] at hs
  subst hs; go_enter Try.func102, Try.ntmps102
  go_wp2_with (go_at_call 95; refine (HK.out _ (Below.refl _ _)).mono ?_; rintro e w2 ⟨rfl, hb⟩; have HB2 := am' hb; clear hb)
  go_end0
  have hb2 : Below W0.heap.size W0 w2 := HBEL.out.trans (HB2.out.mono HBEL.out.size)
  have hBW : B ≤ W.heap.size := by
   obtain ⟨v, h1, h2, _⟩ := HOUT.out
   have := blk_lt h1
   have := HBEL.out.size
   omega
  exact ⟨rfl, HB2.out.mono hBW, O, ⟨HOUT.out.below hb2, HFR.out.turn (Kept.of_below HB2.out O) (fun _ h => .inl h)⟩, Kept.of_below HB2.out O, fun k h => .inl h⟩
 | true =>
  simp only [if_true] at hs
  obtain ⟨v, hbo, hB, hS, rfl⟩ := HOUT.out
  obtain ⟨hlim, rfl⟩ : s.length < 1099511627776 ∧ s ++ [l] = s' := by
   unfold pushS at hs
   by_cases h : s.length < 1099511627776
   ·
    rw [if_pos h] at hs; exact ⟨h, Option.some.inj hs⟩
   ·
    rw [if_neg h] at hs; cases hs
  have hinfo := am' (show (Try.prog.info? 22).map (fun i => (i.zero, i.size, i.bytes)) = some (some (.slice none 0 0), 1, 24) by kernel_rfl)
  have HL := am' hlim
  have HBO0 := am' hbo
  have HS0 := am' hS
  have HBE := am' hB
  have HLO := am' (blk_lt hbo)
  have HVL := am' (Kd.S_lt hS)
  clear hbo hS hs hlim hB HOUT; go_enter Try.func102, Try.ntmps102
  go_wp2_with (first | (go_at_call 95; refine (HK.out _ (Below.refl _ _)).mono ?_; rintro e w2 ⟨rfl, hb⟩; have HB2 := am' hb; have hb2 : Below W0.heap.size W0 w2 := below_step HBEL.out hb; have HSZ := am' hb2.size; have HBO := am' (blk_below HBO0.out hb2); have HS := am' (Kd.S_mono (Kd.S_old HS0.out hb2) (ok' := fun k => k ≠ bo ∧ ¬ W0.heap.size ≤ k) (fun k hk => ⟨hk.1, by omega⟩)); have HR := am' (Kd.R_below HR0.out hb); have HBB := am' (show Below B W w2 from hb.mono (by have := HBEL.out.size; have := HLO.out; have := HBE.out; omega)); clear hb hb2; have y0 : w2.cell? ⟨bo, 0, none⟩ = some v := (blk_cell HBO.out 0).trans rfl; have y1 := blk_frozen HBO.out 0) | ((with_reducible refine gate_builtin (b := .append) (xs := #[.tmp 7, .tmp 9]) rfl ?_); at_builtin; refine Kd.S_append (Kd.slice 3 (Kd.int .i64)) (w0 := W) B rfl (.tmp 7) (.tmp 9) 47 22 (.slice none 0 0) 24 rfl Try.underlying47 hinfo.out rfl (by decide) (by omega) v s l [.slice Al l.length cl] (fun k => k ≠ bo) (fun k => W0.heap.size ≤ k ∧ k < w2.heap.size ∧ k ≠ bo) rfl rfl ?aP ?aK ?aF ?aO ?aB ?aS ?aL ?_; (case aP => exact ⟨_, rfl, Kd.R_lower (Kd.R_mono (Kd.R_bound HR.out) (fun k hk => ⟨hk.2.1, hk.2.2.1, by have := HLO.out; have := hk.2.1; omega⟩)) (by have := HLO.out; have := HBE.out; omega)⟩); (case aK => exact fun k hk => ⟨hk.2.2, fun e => by have := HVL.out k e.symm; omega⟩); (case aF => exact fun k hk => by have := HLO.out; have := HSZ.out; omega); (case aO => exact Kd.S_mono HS.out (fun k hk => ⟨hk.1, fun q => hk.2 q.1⟩)); (case aB => exact HBB.out); (case aS => have := HLO.out; have := HSZ.out; have := HBE.out; omega); (case aL => have := HL.out; omega); intro v1 w1 ho hb hg hat; obtain ⟨A1_, c1_, e1⟩ := Kd.S_slice ho; rw [List.length_append, List.length_singleton] at e1; subst e1; have HY := am' ((hg.block bo (Nat.lt_of_lt_of_le HLO.out HSZ.out) (Kd.S_away HS.out (fun k hk => hk.1))).trans HBO.out); have z0 : w1.cell? ⟨bo, 0, none⟩ = some v := (blk_cell HY.out 0).trans rfl; have z1 := blk_frozen HY.out 0; have HO := am' ho; have HB1 := am' hb; have HG1 := am' hg; have HA1 := am' hat; clear ho hb hg hat))
  go_end0
  have hkp : Kept W (w1.setCell ⟨bo, 0, none⟩ (.slice A1_ (s.length + 1) c1_)) (fun k => k = bo ∨ some k = v.ownBlock) := Kept.setCell (Kept.of_grown HG1.out (Kept.of_below HB2.out _) (fun k hk => .inl (.inr hk.symm))) (.inl (.inl rfl)) _
  have hnew : ∀ k, (k = bo ∨ some k = (Value.slice A1_ (s.length + 1) c1_).ownBlock) → (k = bo ∨ some k = v.ownBlock) ∨ W.heap.size ≤ k := by
   rintro k (rfl | hk)
   ·
    exact .inl (.inl rfl)
   ·
    rcases HA1.out with q | ⟨b, q, hb⟩
    ·
     exact .inl (.inr (hk.trans q))
    ·
     rw [q] at hk
     cases hk
     exact .inr (Nat.le_trans HB2.out.size hb)
  exact ⟨rfl, HB1.out.setCell HBE.out _, _, ⟨⟨_, blk_put HY.out 0 _ rfl, HBE.out, Kd.S_far HO.out (p := ⟨bo, 0, none⟩) (fun k hk => hk) _, rfl⟩, HFR.out.turn hkp hnew⟩, hkp, hnew⟩
def impl_Crew_rides.f (k : Nat) (l0_0 : List Int) (l0_1 : List Bool) (a0_2 : Int) (l1_0 : List Bool) (a1_1 : Bool) : Option (List (List Int)) :=
 (impl_State_side.f k l1_0 a1_1 a1_1).bind fun sd => if sd.length ≤ 20 then (grpsF (l0_0.length : Int) sd []).foldlM (crewS k l0_0 l0_1 a0_2) [] else none
set_option maxHeartbeats 2000000 in
set_option maxRecDepth 100000 in
theorem impl_Crew_rides.calls (k : Nat) (A0_0 : Option Addr) (c0_0 : Nat) (l0_0 : List Int) (A0_1 : Option Addr) (c0_1 : Nat) (l0_1 : List Bool) (a0_2 : Int) (A1_0 : Option Addr) (c1_0 : Nat) (l1_0 : List Bool) (a1_1 : Bool) (r : List (List Int)) (w : World) (hr0_0 : Kd.C (Kd.int .i64) w A0_0 l0_0.length l0_0) (hc0_0 : l0_0.length ≤ c0_0) (hr0_1 : Kd.C Kd.bool w A0_1 l0_1.length l0_1) (hc0_1 : l0_1.length ≤ c0_1) (hr1_0 : Kd.C Kd.bool w A1_0 l1_0.length l1_0) (hc1_0 : l1_0.length ≤ c1_0) (h : impl_Crew_rides.f k l0_0 l0_1 a0_2 l1_0 a1_1 = some r) :
  Calls Try.prog 74 #[.agg #[.slice A0_0 l0_0.length c0_0, .slice A0_1 l0_1.length c0_1, .int .i64 a0_2], .agg #[.slice A1_0 l1_0.length c1_0, .bool a1_1]] w fun e w' => ∃ v0_ : Value, e = .returned (v0_) ∧ Kd.S (Kd.slice 3 (Kd.int .i64)) 22 w' w.heap.size (fun _ => True) v0_ r ∧ Below w.heap.size w w' := by
 have hu0 := Try.underlying29
 have hu1 := Try.underlying38
 unfold impl_Crew_rides.f at h
 obtain ⟨sd, hsd, h⟩ := Option.bind_eq_some_iff.mp h
 by_cases hlen : sd.length ≤ 20
 ·
  rw [if_pos hlen] at h; have HD := am' (fun (W : World) (hb : Below w.heap.size w W) => impl_State_side.calls k A1_0 c1_0 l1_0 a1_1 a1_1 sd W (Kd.C_below hr1_0 hb) hc1_0 hsd)
  have HB0 := am' (four_blocks w (.cells #[.slice A0_0 l0_0.length c0_0, .slice A0_1 l0_1.length c0_1, .int .i64 a0_2] 29) (.cells #[.slice A1_0 l1_0.length c1_0, .bool a1_1] 38) (.cells #[] 22) (.cells #[.slice (some ⟨w.heap.size + 1 + 1, 0, none⟩) 0 0] 47))
  have HF0 := am' (Kd.C_F (Kd.heap_int .i64) hr0_0)
  have HF1 := am' (Kd.C_F Kd.heap_bool hr0_1)
  have HFO := am' h
  have HLEN := am' hlen
  clear hr0_0 hr0_1 hr1_0 hsd hlen h; go_enter Try.func74, Try.ntmps74
  go_wp2_with fail
  generalize hW3 : (((w.alloc (.cells #[.slice A0_0 l0_0.length c0_0, .slice A0_1 l0_1.length c0_1, .int .i64 a0_2] 29)).alloc (.cells #[.slice A1_0 l1_0.length c1_0, .bool a1_1] 38)).alloc (.cells #[] 22)).alloc (.cells #[.slice (some ⟨w.heap.size + 1 + 1, 0, none⟩) 0 0] 47) = W3 at HB0 ⊢
  clear hW3; have HW3 := am' HB0.out.2.2.2.2
  have HLT := am' (blk_lt HB0.out.2.2.2.1)
  have HIN := am' (show OutInv w.heap.size (w.heap.size + 1 + 1 + 1) [] W3 (fun k => k = w.heap.size + 1 + 1 + 1 ∨ some k = (Value.slice (some ⟨w.heap.size + 1 + 1, 0, none⟩) 0 0).ownBlock) from
   ⟨_, HB0.out.2.2.2.1, by omega, S_empty _ HB0.out.2.2.1 (by omega) (by omega), rfl⟩)
  have hno : ∀ k, (k = w.heap.size + 1 + 1 + 1 ∨ some k = (Value.slice (some ⟨w.heap.size + 1 + 1, 0, none⟩) 0 0).ownBlock) → w.heap.size + 1 + 1 ≤ k := by
   rintro k (rfl | q)
   ·
    omega
   ·
    have q := Option.some.inj (show some _ = some _ from q)
    simp at q; omega
  have HNO := am' hno
  clear hno
  have HCF := am' (show CrewFr w.heap.size A0_0 c0_0 l0_0 A0_1 c0_1 l0_1 a0_2 W3 (fun k => k = w.heap.size + 1 + 1 + 1 ∨ some k = (Value.slice (some ⟨w.heap.size + 1 + 1, 0, none⟩) 0 0).ownBlock) from
   ⟨HB0.out.1, fun q => by have := HNO.out _ q; omega, Kd.F_mono (Kd.F_below HF0.out HW3.out) (fun k hk q => by have := HNO.out _ q; omega), Kd.F_mono (Kd.F_below HF1.out HW3.out) (fun k hk q => by have := HNO.out _ q; omega), hc0_0, hc0_1⟩)
  have x0 : W3.cell? ⟨w.heap.size + 1, 0, none⟩ = some (.slice A1_0 l1_0.length c1_0) := (blk_cell HB0.out.2.1 0).trans rfl
  have x1 : W3.cell? ⟨w.heap.size + 1, 1, none⟩ = some (.bool a1_1) := (blk_cell HB0.out.2.1 1).trans rfl
  have x2 : W3.cell? ⟨w.heap.size, 0, none⟩ = some (.slice A0_0 l0_0.length c0_0) := (blk_cell HB0.out.1 0).trans rfl
  have HR0 := am' (Below.refl W3.heap.size W3)
  clear HF0 HF1
  go_region_held3 (fun w' => w'.cell? ⟨w.heap.size + 1, 0, none⟩ = some (.slice A1_0 l1_0.length c1_0) ∧ w'.cell? ⟨w.heap.size + 1, 1, none⟩ = some (.bool a1_1) ∧ w'.cell? ⟨w.heap.size, 0, none⟩ = some (.slice A0_0 l0_0.length c0_0))
   (first | exact ⟨z0, z1, z2⟩ | exact ⟨y0, y1, y2⟩ | go_keep)
   (first
    | ((go_at_call 101; refine (HD.out _ ?_).mono ?_; (repeat (first | (with_reducible exact HW3.out) | apply be' | apply bd')); rintro e w4 ⟨vs, rfl, ho, hb⟩; have HR4 := am' (below_step (by repeat (first | (with_reducible exact HR0.out) | apply be' | apply bd')) hb); have HO4 := am' ho; clear hb ho; have y0 := (HR4.out.cell (bl' W3 _ x0)).trans x0; have y1 := (HR4.out.cell (bl' W3 _ x1)).trans x1; have y2 := (HR4.out.cell (bl' W3 _ x2)).trans x2; obtain ⟨As, cs, es, hcs, _⟩ := Kd.R_reads HO4.out; subst es; have HCS := am' hcs; clear hcs))
    | ((go_at_call 100; refine (groups_any (crew1_each k w.heap.size (w.heap.size + 1 + 1 + 1) w.heap.size A0_0 c0_0 l0_0 A0_1 c0_1 l0_1 a0_2) (fun s W O h => OutInv.lt s W O h.1) (enters_of Try.func102 (by kernel_rfl) rfl) sd (l0_0.length : Int) As cs HCS.out (by have := HLEN.out; omega) [] r _ _ ?gB (fun W hb => ⟨HIN.out.below (below_step HR4.out (by (first | exact hb | (simpa using hb)))), HCF.out.turn (Kept.of_below (below_step HR4.out (by (first | exact hb | (simpa using hb)))) _) (fun _ h => .inl h)⟩) ?gF HFO.out).mono ?_; (case gB => exact Nat.le_trans HW3.out.size (by have := HR4.out.size; first | exact this | simpa using this)); (case gF => exact Kd.F_mono (Kd.R_F (Kd.R_bound HO4.out)) (fun k hk q => by have := HLT.out; have := hk.2.1; rcases q with q | q; (subst q; (simp at this; omega)); (have q := Option.some.inj (show some _ = some _ from q); simp at q this; omega))); rintro e w5 ⟨rfl, hb5, O5, ⟨⟨v5, hv5, _, hS5, _⟩, _⟩, hk5, ho5⟩; have HV5 := am' hv5; have HS5 := am' hS5; have HB5 := am' hb5; have z0 := cell_kept y0 hk5 (fun q => by have := HNO.out _ q; (try simp at this); omega); have z1 := cell_kept y1 hk5 (fun q => by have := HNO.out _ q; (try simp at this); omega); have z2 := cell_kept y2 hk5 (fun q => by have := HNO.out _ q; (try simp at this); omega); clear hv5 hS5 hb5 hk5 ho5)))
  all_goals
   have hv5 : w5.cell? ⟨w.heap.size + 1 + 1 + 1, 0, none⟩ = some v5 := (blk_cell HV5.out 0).trans rfl
   go_wp2
   go_ret
   exact ⟨_, rfl, Kd.S_mono HS5.out (fun _ _ => trivial), (HW3.out.trans (HR4.out.mono (by have := HW3.out.size; omega))).trans HB5.out⟩
 ·
  rw [if_neg hlen] at h; cases h
end Go.Proofs.Ytikjdmiohpdnaaa.C13
