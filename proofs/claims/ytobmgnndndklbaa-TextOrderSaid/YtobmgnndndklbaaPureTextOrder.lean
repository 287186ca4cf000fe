/- YOURS: ∀ (a0 : S23) (a1 : S23) (a2 : S23), good23 a0 → good23 a1 → good23 a2 → ∃ k, oriellaw01_TextOrder.f k a0.f0 a0.f1 a1.f0 a1.f1 a2.f0 a2.f1 = some true -/
import Derived.Test.YtobmgnndndklbaaInTextOrder
namespace Go.Proofs.Ytobmgnndndklbaa.Pure
open Go.RowKit Go.Proofs.YtobmgnndndklbaaW.PrintWords Go.Proofs.YtobmgnndndklbaaW.PrintLast Go.Proofs.YtobmgnndndklbaaW.PrintMore Go.Proofs.Ytobmgnndndklbaa.PAll Go.Proofs.Ytobmgnndndklbaa.Frame

theorem holds_eq (a b c d : Int) : text_Holds.f a b c d = some (decide (a ≤ c ∧ d ≤ b)) := by
  unfold text_Holds.f
  by_cases h : c ≥ a
  · rw [if_pos h]
    have : a ≤ c := h
    simp [this]
  · rw [if_neg h]
    have : ¬ a ≤ c := h
    simp [this]
theorem meets_eq (a b c d : Int) : text_Meets.f a b c d = some (decide (a < b ∧ a < d ∧ c < b ∧ c < d)) := by
  unfold text_Meets.f
  congr 1
  rw [decide_eq_decide]
  unfold mx mn
  split <;> split <;> omega
theorem alive_yes : oriellaw01_alive.f 20 = some true := by kernel_rfl
theorem j0_yes (k : Nat) (p0 p1 q0 q1 r0 r1 : Int) (hk : oriellaw01_alive.f k = some true) : oriellaw01_TextOrder.j0 (k + 1) false p0 p1 q0 q1 r0 r1 = some true := by
  simp only [oriellaw01_TextOrder.j0, holds_eq, meets_eq, Option.bind_some, hk, Bool.false_eq_true, if_false, decide_eq_true_eq]
  by_cases h1 : p0 ≤ q0 ∧ q1 ≤ p1
  · by_cases h2 : q0 < q1 ∧ q0 < r1 ∧ r0 < q1 ∧ r0 < r1
    · have h3 : p0 < p1 ∧ p0 < r1 ∧ r0 < p1 ∧ r0 < r1 := by omega
      rw [if_pos h1, if_pos h2, if_pos h3]
    · rw [if_pos h1, if_neg h2]
  · rw [if_neg h1]
theorem TextOrder : oriellaw01_TextOrder.Pure := by
  intro p q r _ _ _
  refine ⟨21, ?_⟩
  have hj := fun p0 p1 q0 q1 r0 r1 => j0_yes 20 p0 p1 q0 q1 r0 r1 alive_yes
  unfold oriellaw01_TextOrder.f
  simp only [holds_eq, Option.bind_some, decide_eq_true_eq]
  rw [if_pos ⟨Int.le_refl _, Int.le_refl _⟩]
  by_cases h1 : p.f0 ≤ q.f0 ∧ q.f1 ≤ p.f1
  · have he : (q.f0 ≤ p.f0 ∧ p.f1 ≤ q.f1) → (!(p.f0 == q.f0) || (!(p.f1 == q.f1))) = false := fun h => by
      have e1 : p.f0 = q.f0 := by omega
      have e2 : p.f1 = q.f1 := by omega
      simp [e1, e2]
    rw [if_pos h1]
    by_cases h2 : q.f0 ≤ r.f0 ∧ r.f1 ≤ q.f1
    · have h3 : p.f0 ≤ r.f0 ∧ r.f1 ≤ p.f1 := by omega
      rw [if_pos h2, if_pos h3]
      by_cases h4 : q.f0 ≤ p.f0 ∧ p.f1 ≤ q.f1
      · rw [if_pos h4, he h4]; exact hj _ _ _ _ _ _
      · rw [if_neg h4]; exact hj _ _ _ _ _ _
    · rw [if_neg h2]
      by_cases h4 : q.f0 ≤ p.f0 ∧ p.f1 ≤ q.f1
      · rw [if_pos h4, he h4]; exact hj _ _ _ _ _ _
      · rw [if_neg h4]; exact hj _ _ _ _ _ _
  · rw [if_neg h1]; exact hj _ _ _ _ _ _

end Go.Proofs.Ytobmgnndndklbaa.Pure
