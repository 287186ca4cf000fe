/- How often each node is a kid. Conditions: as the theorems say. -/
import Derived.Test.YtemdnmidhmddlaaTpD
namespace Go.Proofs.Ytemdnmidhmddlaa.Tree
open Go Go.RowKit Go.Proofs.YtemdnmidhmddlaaW.PrintWords Go.Proofs.YtemdnmidhmddlaaW.PrintLast Go.Proofs.YtemdnmidhmddlaaW.PrintMore Go.Proofs.Ytemdnmidhmddlaa.PAll
set_option linter.unusedVariables false
set_option linter.unusedSimpArgs false
/-- How often each number below s stands in a row. -/
def cnts (s : Nat) (L : List Int) : List Int := (List.range s).map (fun k : Nat => ((L.count (k : Int) : Nat) : Int))
theorem cnts_len (s : Nat) (L : List Int) : (cnts s L).length = s := by unfold cnts; rw [List.length_map, List.length_range]
theorem cnts_get {s : Nat} {L : List Int} {k : Nat} (h : k < s) : (cnts s L)[k]? = some ((L.count (k : Int) : Nat) : Int) := by
  unfold cnts
  rw [List.getElem?_map, List.getElem?_range h]
  rfl
theorem cnts_nil (s : Nat) : cnts s [] = List.replicate s 0 := by
  apply List.ext_getElem?
  intro k
  by_cases h : k < s
  · rw [cnts_get h, List.getElem?_replicate, if_pos h]
    rfl
  · rw [List.getElem?_eq_none (by rw [cnts_len]; omega), List.getElem?_eq_none (by rw [List.length_replicate]; omega)]
theorem cnts_snoc {s : Nat} {L : List Int} {k : Nat} (h : k < s) : (cnts s L).set k (((L.count (k : Int) : Nat) : Int) + 1) = cnts s (L ++ [(k : Int)]) := by
  apply List.ext_getElem?
  intro j
  by_cases hj : j < s
  · rw [cnts_get hj, List.getElem?_set, List.count_append]
    by_cases c : k = j
    · subst c
      rw [if_pos rfl, if_pos (by rw [cnts_len]; exact h), List.count_singleton_self]
      rfl
    · rw [if_neg c, cnts_get hj, List.count_singleton, if_neg (by simp only [beq_iff_eq]; omega)]
      rfl
  · rw [List.getElem?_eq_none (by rw [List.length_set, cnts_len]; omega), List.getElem?_eq_none (by rw [cnts_len]; omega)]
theorem idxs_lt {p : S46 → Bool} (l : List S46) (i : Nat) (k : Int) (h : k < (i : Int)) : (idxs p l i).count k = 0 := by
  rw [List.count_eq_zero]
  intro hk
  obtain ⟨j, e, h1, _, _⟩ := (mem_idxs l i k).mp hk
  omega
theorem idxs_count {p : S46 → Bool} : ∀ (l : List S46) (i j : Nat) (e : S46), l[j]? = some e → (idxs p l i).count ((i + j : Nat) : Int) = if p e = true then 1 else 0
  | [], _, _, _, h => by cases h
  | a :: r, i, 0, e, h => by
    rw [List.getElem?_cons_zero] at h
    obtain rfl := Option.some.inj h
    rw [idxs, Nat.add_zero]
    by_cases c : p a = true
    · rw [if_pos c, if_pos c, List.count_cons_self, idxs_lt r (i + 1) _ (by omega)]
    · rw [if_neg c, if_neg c, idxs_lt r (i + 1) _ (by omega)]
  | a :: r, i, j + 1, e, h => by
    rw [List.getElem?_cons_succ] at h
    have ih := idxs_count (p := p) r (i + 1) j e h
    rw [show i + 1 + j = i + (j + 1) by omega] at ih
    rw [idxs]
    by_cases c : p a = true
    · rw [if_pos c, List.count_cons_of_ne (by omega), ih]
    · rw [if_neg c, ih]
/-- The kids of the first n nodes. -/
def allK (rl : List S46) : Nat → List Int
  | 0 => []
  | n + 1 => allK rl n ++ idxs (isUp (n : Int)) rl 0
theorem allK_count {rl : List S46} {k : Nat} {e : S46} (h : rl[k]? = some e) : ∀ n : Nat, (allK rl n).count (k : Int) = if 0 ≤ e.f1 ∧ e.f1 < (n : Int) then 1 else 0
  | 0 => by rw [if_neg (by omega)]; rfl
  | n + 1 => by
    have h1 := idxs_count (p := isUp (n : Int)) rl 0 k e h
    rw [Nat.zero_add] at h1
    rw [allK, List.count_append, allK_count h n, h1]
    unfold isUp
    by_cases c : e.f1 = (n : Int)
    · rw [if_neg (by omega), if_pos (decide_eq_true c), if_pos (by omega)]
    · rw [if_neg (show ¬ decide (e.f1 = (n : Int)) = true by rw [decide_eq_true_iff]; exact c)]
      by_cases c2 : 0 ≤ e.f1 ∧ e.f1 < (n : Int)
      · rw [if_pos c2, if_pos (by omega)]
      · rw [if_neg c2, if_neg (by omega)]
theorem up_0 (x : S25) {k : Nat} {e : S46} (h : (rwL [x] (-1) 1 0)[k]? = some e) : (k = 0 ∧ e.f1 = -1) ∨ (0 < k ∧ 0 ≤ e.f1 ∧ e.f1 < (k : Int)) := by
  have hu := upOk_of x k e h
  rw [rwL_cons, rwL_nil, List.append_nil] at h
  cases k with
  | zero =>
    rw [List.getElem?_cons_zero] at h
    obtain rfl := Option.some.inj h
    exact Or.inl ⟨rfl, rfl⟩
  | succ k =>
    rw [List.getElem?_cons_succ] at h
    rcases ups _ x.f5 ((0 : Nat) : Int) (1 + 1) (0 + 1) (Nat.lt_succ_self _) e (List.mem_of_getElem? h) with h2 | h2 <;> exact Or.inr (by omega)
theorem all_once (x : S25) {k : Nat} (h : k < szL [x]) : (((allK (rwL [x] (-1) 1 0) (szL [x])).count (k : Int) : Nat) : Int) = if (1 : Int) < (k : Int) then 1 else (k : Int) := by
  have hl := rw_len [x] (-1) 1 0
  obtain ⟨e, he⟩ : ∃ e, (rwL [x] (-1) 1 0)[k]? = some e := ⟨_, List.getElem?_eq_getElem (by omega)⟩
  rw [allK_count he]
  rcases up_0 x he with ⟨h1, h2⟩ | ⟨h1, h2, h3⟩
  · rw [if_neg (by omega), if_neg (by omega), h1]
  · rw [if_pos (by omega)]
    by_cases c : (1 : Int) < (k : Int)
    · rw [if_pos c]; rfl
    · rw [if_neg c]
      show (1 : Int) = _
      omega
theorem cnt_le {rl : List S46} {k : Nat} {e : S46} (h : rl[k]? = some e) (n : Nat) (l : List Int) (hl : l.length ≤ 1000000) : (allK rl n ++ l).count (k : Int) ≤ 1000001 := by
  rw [List.count_append, allK_count h]
  have := List.count_le_length (a := (k : Int)) (l := l)
  by_cases c : 0 ≤ e.f1 ∧ e.f1 < (n : Int)
  · rw [if_pos c]; omega
  · rw [if_neg c]; omega
end Go.Proofs.Ytemdnmidhmddlaa.Tree
