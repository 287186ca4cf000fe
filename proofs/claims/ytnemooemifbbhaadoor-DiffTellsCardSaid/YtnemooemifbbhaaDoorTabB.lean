/- The table of the greatest common rows: what each entry is, and how the table grows. Plain lists and numbers; no condition but those of each theorem. -/
import Derived.Test.YtnemooemifbbhaaDoorPDTx0
namespace Go.Proofs.YtnemooemifbbhaaDoor.TabB
open Go.RowKit Go.Proofs.YtnemooemifbbhaaDoorW.PrintWords Go.Proofs.YtnemooemifbbhaaDoor.PDT
set_option linter.unusedVariables false
set_option linter.unusedSimpArgs false
def lcs {α : Type} [DecidableEq α] : List α → List α → Nat
 | [], _ => 0
 | _ :: _, [] => 0
 | x :: xs, y :: ys => if x = y then lcs xs ys + 1 else max (lcs xs (y :: ys)) (lcs (x :: xs) ys)
termination_by a b => a.length + b.length
variable {α : Type} [DecidableEq α]
theorem lcs_nil (b : List α) : lcs [] b = 0 := by rw [lcs]
theorem lcs_nil' (a : List α) : lcs a [] = 0 := by cases a <;> rw [lcs]
theorem lcs_le : ∀ (n : Nat) (a b : List α), a.length + b.length ≤ n → lcs a b ≤ a.length
 | n, [], b, _ => by rw [lcs_nil]; exact Nat.le_refl _
 | n, x :: xs, [], _ => by rw [lcs_nil']; exact Nat.zero_le _
 | 0, x :: xs, y :: ys, h => by simp at h
 | n + 1, x :: xs, y :: ys, h => by
  rw [lcs]
  simp only [List.length_cons] at h ⊢
  have h1 := lcs_le n xs ys (by omega)
  have h2 := lcs_le n xs (y :: ys) (by simp only [List.length_cons]; omega)
  have h3 := lcs_le n (x :: xs) ys (by simp only [List.length_cons]; omega)
  simp only [List.length_cons] at h3
  split <;> omega
theorem lcs_step (a b : List α) (i k : Nat) (hi : i < a.length) (hk : k < b.length) : lcs (a.drop i) (b.drop k) = if a[i] = b[k] then lcs (a.drop (i + 1)) (b.drop (k + 1)) + 1 else max (lcs (a.drop (i + 1)) (b.drop k)) (lcs (a.drop i) (b.drop (k + 1))) := by
 rw [List.drop_eq_getElem_cons hi, List.drop_eq_getElem_cons hk, lcs]
def tpart (a b : List α) (i k : Int) : List (List Int) :=
 (List.range (a.length + 1)).map fun (j : Nat) => (List.range (b.length + 1)).map fun (q : Nat) => if i < (j : Int) ∨ i = (j : Int) ∧ k < (q : Int) then (lcs (a.drop j) (b.drop q) : Int) else 0
theorem part_len (a b : List α) (i k : Int) : (tpart a b i k).length = a.length + 1 := by simp [tpart]
theorem part_at (a b : List α) (i k : Int) (j q : Nat) (hj : j ≤ a.length) (hq : q ≤ b.length) : ((tpart a b i k).getD j []).getD q 0 = if i < (j : Int) ∨ i = (j : Int) ∧ k < (q : Int) then (lcs (a.drop j) (b.drop q) : Int) else 0 := by
 unfold tpart
 simp only [List.getD_eq_getElem?_getD, List.getElem?_map, List.getElem?_range (show j < a.length + 1 by omega), Option.map_some, Option.getD_some, List.getElem?_range (show q < b.length + 1 by omega)]
theorem part_row_len (a b : List α) (i k : Int) (j : Nat) (hj : j ≤ a.length) : ((tpart a b i k).getD j []).length = b.length + 1 := by
 unfold tpart
 simp only [List.getD_eq_getElem?_getD, List.getElem?_map, List.getElem?_range (show j < a.length + 1 by omega), Option.map_some, Option.getD_some, List.length_map, List.length_range]
theorem part_first (a b : List α) : tpart a b ((a.length : Int) - 1) ((b.length : Int) - 1) = List.replicate (a.length + 1) (List.replicate (b.length + 1) 0) := by
 unfold tpart
 apply List.ext_getElem?
 intro j
 by_cases hj : j < a.length + 1
 ·rw [List.getElem?_map, List.getElem?_range hj, List.getElem?_replicate_of_lt hj]
  simp only [Option.map_some, Option.some.injEq]
  apply List.ext_getElem?
  intro q
  by_cases hq : q < b.length + 1
  ·rw [List.getElem?_map, List.getElem?_range hq, List.getElem?_replicate_of_lt hq]
   simp only [Option.map_some, Option.some.injEq]
   split
   ·next h =>
    rcases h with h | h
    ·rw [List.drop_eq_nil_of_le (by omega), lcs_nil]; rfl
    ·rw [(show List.drop q b = [] from List.drop_eq_nil_of_le (by omega)), lcs_nil']; rfl
   ·rfl
  ·rw [List.getElem?_eq_none (by simpa using hq), List.getElem?_eq_none (by simpa using hq)]
 ·rw [List.getElem?_eq_none (by simpa using hj), List.getElem?_eq_none (by simpa using hj)]
theorem part_next (a b : List α) (i : Int) : tpart a b i (-1) = tpart a b (i - 1) ((b.length : Int) - 1) := by
 unfold tpart
 refine List.map_congr_left (fun j hj => List.map_congr_left (fun q hq => ?_))
 have hq' : q ≤ b.length := by have := List.mem_range.mp hq; omega
 by_cases h : i - 1 = (j : Int) ∧ (b.length : Int) - 1 < (q : Int)
 ·rw [if_neg (by omega), if_pos (.inr h), (show List.drop q b = [] from List.drop_eq_nil_of_le (by omega)), lcs_nil']; rfl
 ·by_cases h2 : i < (j : Int) ∨ i = (j : Int) ∧ -1 < (q : Int)
  ·rw [if_pos h2, if_pos (by omega)]
  ·rw [if_neg h2, if_neg (by omega)]
theorem part_set (a b : List α) (i k : Nat) (hi : i < a.length) (hk : k < b.length) : (tpart a b i k).set i (((tpart a b i k).getD i []).set k (lcs (a.drop i) (b.drop k) : Int)) = tpart a b i ((k : Int) - 1) := by
 apply List.ext_getElem?
 intro j
 by_cases hj : j < a.length + 1
 ·by_cases hji : i = j
  ·subst hji
   rw [List.getElem?_set_self (by rw [part_len]; exact hj)]
   unfold tpart
   rw [List.getElem?_map, List.getElem?_range hj]
   simp only [Option.map_some, Option.some.injEq, List.getD_eq_getElem?_getD, List.getElem?_map, List.getElem?_range hj, Option.getD_some]
   apply List.ext_getElem?
   intro q
   by_cases hq : q < b.length + 1
   ·by_cases hqk : k = q
    ·subst hqk
     rw [List.getElem?_set_self (by simpa using hq), List.getElem?_map, List.getElem?_range hq]
     simp only [Option.map_some, Option.some.injEq]
     have hc : (i : Int) < (i : Int) ∨ True ∧ (k : Int) - 1 < (k : Int) := .inr ⟨trivial, by omega⟩
     first | rw [if_pos hc] | rw [if_pos (by omega)]
    ·rw [List.getElem?_set_ne hqk, List.getElem?_map, List.getElem?_map, List.getElem?_range hq]
     simp only [Option.map_some, Option.some.injEq]
     by_cases h : (k : Int) < (q : Int)
     ·rw [if_pos (.inr ⟨trivial, h⟩), if_pos (.inr ⟨trivial, by omega⟩)]
     ·rw [if_neg (fun e => e.elim (fun e => by omega) (fun e => h e.2)), if_neg (fun e => e.elim (fun e => by omega) (fun e => by have := e.2; omega))]
   ·rw [List.getElem?_eq_none (by simpa using hq), List.getElem?_eq_none (by simpa using hq)]
  ·rw [List.getElem?_set_ne hji]
   unfold tpart
   rw [List.getElem?_map, List.getElem?_map, List.getElem?_range hj]
   simp only [Option.map_some, Option.some.injEq]
   refine List.map_congr_left (fun q hq => ?_)
   by_cases h : (i : Int) < (j : Int)
   ·rw [if_pos (.inl h), if_pos (.inl h)]
   ·rw [if_neg (by omega), if_neg (by omega)]
 ·rw [List.getElem?_eq_none (by rw [List.length_set, part_len]; omega), List.getElem?_eq_none (by rw [part_len]; omega)]
end Go.Proofs.YtnemooemifbbhaaDoor.TabB
