/- The common row that is taken along the table: it is as long as the greatest one; its pairs are of like lines, in order. Plain lists and numbers; no condition but those of each theorem. -/
import Derived.Test.YtnemooemifbbhaaDoorTabB
namespace Go.Proofs.YtnemooemifbbhaaDoor.TabD
open Go.Proofs.YtnemooemifbbhaaDoor.TabB
set_option linter.unusedVariables false
set_option linter.unusedSimpArgs false
variable {α : Type} [DecidableEq α]
def greedy (a b : List α) : Nat → Nat → Nat → List (Nat × Nat)
 | 0, _, _ => []
 | n + 1, i, k => if h : i < a.length ∧ k < b.length then
   (if a[i]'h.1 = b[k]'h.2 then (i, k) :: greedy a b n (i + 1) (k + 1)
    else if lcs (a.drop i) (b.drop (k + 1)) ≤ lcs (a.drop (i + 1)) (b.drop k) then greedy a b n (i + 1) k else greedy a b n i (k + 1))
  else []
theorem greedy_len (a b : List α) : ∀ (n i k : Nat), (a.length - i) + (b.length - k) ≤ n → (greedy a b n i k).length = lcs (a.drop i) (b.drop k) := by
 intro n
 induction n with
 | zero =>
  intro i k h
  rw [show a.drop i = [] from List.drop_eq_nil_of_le (by omega), lcs_nil]
  rfl
 | succ n ih =>
  intro i k h
  rw [greedy]
  by_cases c : i < a.length ∧ k < b.length
  ·rw [dif_pos c, lcs_step a b i k c.1 c.2]
   by_cases e : a[i]'c.1 = b[k]'c.2
   ·rw [if_pos e, if_pos e, List.length_cons, ih (i + 1) (k + 1) (by omega)]
   ·rw [if_neg e, if_neg e]
    by_cases g : lcs (a.drop i) (b.drop (k + 1)) ≤ lcs (a.drop (i + 1)) (b.drop k)
    ·rw [if_pos g, ih (i + 1) k (by omega)]; omega
    ·rw [if_neg g, ih i (k + 1) (by omega)]; omega
  ·rw [dif_neg c]
   by_cases hi : i < a.length
   ·rw [show b.drop k = [] from List.drop_eq_nil_of_le (by omega), lcs_nil']; rfl
   ·rw [show a.drop i = [] from List.drop_eq_nil_of_le (by omega), lcs_nil]; rfl
end Go.Proofs.YtnemooemifbbhaaDoor.TabD
