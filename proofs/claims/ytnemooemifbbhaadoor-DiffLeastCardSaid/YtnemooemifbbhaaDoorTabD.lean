/- The common row that is taken along the table: it is as long as the greatest one; its pairs are of like lines, in order. Plain lists and numbers; no condition but those of each theorem. -/
import Derived.Test.YtnemooemifbbhaaDoorTabB
namespace Go.Proofs.YtnemooemifbbhaaDoor.TabD
open Go.Proofs.YtnemooemifbbhaaDoor.TabB
set_option linter.unusedVariables false
set_option linter.unusedSimpArgs false
variable {α : Type} [DecidableEq α]
/-- The pairs from two places on, in so many rounds. -/
def greedy (a b : List α) : Nat → Nat → Nat → List (Nat × Nat)
  | 0, _, _ => []
  | n + 1, i, k => if h : i < a.length ∧ k < b.length then
      (if a[i]'h.1 = b[k]'h.2 then (i, k) :: greedy a b n (i + 1) (k + 1)
       else if lcs (a.drop i) (b.drop (k + 1)) ≤ lcs (a.drop (i + 1)) (b.drop k) then greedy a b n (i + 1) k else greedy a b n i (k + 1))
    else []
theorem greedy_len (a b : List α) : ∀ (n i k : Nat), (a.length - i) + (b.length - k) ≤ n → (greedy a b n i k).length = lcs (a.drop i) (b.drop k) := by
  intro n
  induction n with
  | zero =>
    intro i k h
    rw [show a.drop i = [] from List.drop_eq_nil_of_le (by omega), lcs_nil]
    rfl
  | succ n ih =>
    intro i k h
    rw [greedy]
    by_cases c : i < a.length ∧ k < b.length
    · rw [dif_pos c, lcs_step a b i k c.1 c.2]
      by_cases e : a[i]'c.1 = b[k]'c.2
      · rw [if_pos e, if_pos e, List.length_cons, ih (i + 1) (k + 1) (by omega)]
      · rw [if_neg e, if_neg e]
        by_cases g : lcs (a.drop i) (b.drop (k + 1)) ≤ lcs (a.drop (i + 1)) (b.drop k)
        · rw [if_pos g, ih (i + 1) k (by omega)]; omega
        · rw [if_neg g, ih i (k + 1) (by omega)]; omega
    · rw [dif_neg c]
      by_cases hi : i < a.length
      · rw [show b.drop k = [] from List.drop_eq_nil_of_le (by omega), lcs_nil']; rfl
      · rw [show a.drop i = [] from List.drop_eq_nil_of_le (by omega), lcs_nil]; rfl
/-- Each pair lies behind the places, within the lists, and is of two like lines. -/
theorem greedy_mem (a b : List α) : ∀ (n i k : Nat) (p : Nat × Nat), p ∈ greedy a b n i k → i ≤ p.1 ∧ k ≤ p.2 ∧ ∃ (h : p.1 < a.length ∧ p.2 < b.length), a[p.1]'h.1 = b[p.2]'h.2 := by
  intro n
  induction n with
  | zero => intro i k p h; simp [greedy] at h
  | succ n ih =>
    intro i k p h
    rw [greedy] at h
    by_cases c : i < a.length ∧ k < b.length
    · rw [dif_pos c] at h
      by_cases e : a[i]'c.1 = b[k]'c.2
      · rw [if_pos e] at h
        rcases List.mem_cons.mp h with rfl | h
        · exact ⟨Nat.le_refl _, Nat.le_refl _, c, e⟩
        · obtain ⟨h1, h2, h3⟩ := ih _ _ p h
          exact ⟨by omega, by omega, h3⟩
      · rw [if_neg e] at h
        split at h
        · obtain ⟨h1, h2, h3⟩ := ih _ _ p h
          exact ⟨by omega, by omega, h3⟩
        · obtain ⟨h1, h2, h3⟩ := ih _ _ p h
          exact ⟨by omega, by omega, h3⟩
    · rw [dif_neg c] at h; cases h
/-- The pairs stand in order. -/
theorem greedy_order (a b : List α) : ∀ (n i k : Nat), (greedy a b n i k).Pairwise fun p q => p.1 < q.1 ∧ p.2 < q.2 := by
  intro n
  induction n with
  | zero => intro i k; rw [greedy]; exact List.Pairwise.nil
  | succ n ih =>
    intro i k
    rw [greedy]
    by_cases c : i < a.length ∧ k < b.length
    · rw [dif_pos c]
      by_cases e : a[i]'c.1 = b[k]'c.2
      · rw [if_pos e]
        refine List.Pairwise.cons (fun p hp => ?_) (ih _ _)
        obtain ⟨h1, h2, _⟩ := greedy_mem a b n _ _ p hp
        exact ⟨h1, h2⟩
      · rw [if_neg e]
        split
        · exact ih _ _
        · exact ih _ _
    · rw [dif_neg c]; exact List.Pairwise.nil
end Go.Proofs.YtnemooemifbbhaaDoor.TabD
