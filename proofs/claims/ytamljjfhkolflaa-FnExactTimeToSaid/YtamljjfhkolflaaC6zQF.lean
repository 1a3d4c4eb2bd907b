import Derived.Test.YtamljjfhkolflaaC6zx0
import Derived.Test.YtamljjfhkolflaaC6zx11
import Derived.Test.YtamljjfhkolflaaC6zx5
import Derived.Test.YtamljjfhkolflaaC6zH0
import Derived.Test.YtamljjfhkolflaaC6zH1
import Derived.Test.YtamljjfhkolflaaC6zQ0
import Derived.Test.YtamljjfhkolflaaC6zQ1
import Derived.Test.YtamljjfhkolflaaC6zQ2
import Derived.Test.YtamljjfhkolflaaC6zQ3
import Derived.Test.YtamljjfhkolflaaC6zQ4
import Derived.Test.YtamljjfhkolflaaC6zQ5
import Derived.Test.YtamljjfhkolflaaC6zQS
import Derived.Test.YtamljjfhkolflaaC6zQG
import Derived.Test.YtamljjfhkolflaaC6zQN
import Derived.Test.YtamljjfhkolflaaC6zQP
import Derived.Test.YtamljjfhkolflaaC6zQT
import Derived.Test.YtamljjfhkolflaaC6zQD
import Derived.Test.YtamljjfhkolflaaC6zQE
namespace Go.Proofs.Ytamljjfhkolflaa.Pure
open Go.RowKit Go.Proofs.Ytamljjfhkolflaa.C6 Go.Proofs.Ytamljjfhkolflaa.H Go.Proofs.YtamljjfhkolflaaW.PrintWords Go.Proofs.YtamljjfhkolflaaW.PrintLast Go.Proofs.YtamljjfhkolflaaW.PrintMore
set_option linter.unusedVariables false
set_option linter.unusedSimpArgs false
section
variable {l : List Int} {m : Int}
theorem least_sign {P : Nat → Prop} {x : Int} (h : IsLeast P x) : x = -1 ∨ 0 ≤ x := by
  rcases h with ⟨q, _⟩ | ⟨k, q, _⟩ <;> omega
theorem far_vals (h : goodP l m = true) (fo vo : List Bool) (ft vt : Bool) (hf : fo.length = l.length) (hv : vo.length = l.length) : ∃ far r x, Ev (fun k => spec_seFar.f k l m fo ft) far ∧ far.length = 2 ^ (l.length + 1) ∧ Ev (fun k => bkD (ptyOut k true l m) k 0 (List.replicate (2 ^ (l.length + 1)) (-1)) [[enI fo ft]]) r ∧ r.length = 2 ^ (l.length + 1) ∧ rd far (enS vo vt) = x ∧ rd r (enI vo vt) = x ∧ (x = -1 ∨ 0 ≤ x) := by
  have hn := (goodP_times h).2.1
  have hF := en_facts hn fo ft hf
  have hV := en_facts hn vo vt hv
  obtain ⟨far, f1, f2, f3⟩ := seFar_ok h fo ft hf
  obtain ⟨r, r1, r2, r3⟩ := from_p h true (enI fo ft) hF.1 hF.2.1
  have hfl : (far.length : Int) = 2 ^ (l.length + 1) := by rw [f2]; exact pow_nat _
  have e1 := f3 (enS vo vt) hV.2.2.2.1 (by rw [hfl]; exact hV.2.2.2.2.1)
  have e2 := r3 (enI vo vt) hV.1 hV.2.1
  exact ⟨far, r, _, f1, f2, r1, r2, rfl, (IsLeast.uniq (e1.iff (fun k => way_IS h true fo vo ft vt hf hv k)) e2).symm, least_sign e1⟩
theorem between_ev {ov : List Bool} {tr : Bool} {c x : Int} {r : List Int} (hn : l.length ≤ 8) (ho : ov.length = l.length) (h : Ev (fun k => bkD (ptyOut k true l m) k 0 (List.replicate (2 ^ (l.length + 1)) (-1)) [[c]]) r) (hr : r.length = 2 ^ (l.length + 1)) (hx : rd r (enI ov tr) = x) (hs : x = -1 ∨ 0 ≤ x) : Ev (fun k => impl_Party_between.f k l m ov tr c) (if x < 0 then (0, false) else (x, true)) := by
  have hF := en_facts hn ov tr ho
  have hrl : (r.length : Int) = 2 ^ (l.length + 1) := by rw [hr]; exact pow_nat _
  unfold impl_Party_between.f
  simp only [if_pos hn]
  refine Ev.bind h (Ev.bind (code_ev hn ov tr ho) ?_)
  simp only [if_pos (show 0 ≤ enI ov tr ∧ enI ov tr < (r.length : Int) from ⟨hF.1, by rw [hrl]; exact hF.2.1⟩), hx]
  by_cases h0 : x < 0
  · rw [if_pos h0, show max x 0 = 0 by omega, decide_eq_false (show ¬ 0 ≤ x by omega)]; exact Ev.now _
  · rw [if_neg h0, show max x 0 = x by omega, decide_eq_true (show 0 ≤ x by omega)]; exact Ev.now _
end
end Go.Proofs.Ytamljjfhkolflaa.Pure
