/- A branch laid out: its knots, its names, its rows, as lists. Program-free but for the types of the print. Conditions: as the theorems say. -/
import Derived.Test.YtemdnmidhmddlaaPAllx0
namespace Go.Proofs.Ytemdnmidhmddlaa.Tree
open Go Go.RowKit Go.Proofs.Ytemdnmidhmddlaa.PAll
set_option linter.unusedVariables false
set_option linter.unusedSimpArgs false
theorem szk (x : S25) (r : List S25) : SizeOf.sizeOf x.f5 < SizeOf.sizeOf (x :: r) := by
 cases x
 simp only [List.cons.sizeOf_spec, S25.mk.sizeOf_spec]
 omega
theorem szr (x : S25) (r : List S25) : SizeOf.sizeOf r < SizeOf.sizeOf (x :: r) := by
 simp only [List.cons.sizeOf_spec]
 omega
theorem szx (x : S25) : SizeOf.sizeOf x.f5 < SizeOf.sizeOf x := by
 cases x
 simp only [S25.mk.sizeOf_spec]
 omega
def szL : List S25 → Nat
 | [] => 0
 | x :: r => 1 + szL x.f5 + szL r
termination_by l => SizeOf.sizeOf l
decreasing_by all_goals first | exact szk _ _ | exact szr _ _
theorem szL_nil : szL [] = 0 := by rw [szL]
theorem szL_cons (x : S25) (r : List S25) : szL (x :: r) = 1 + szL x.f5 + szL r := by rw [szL]
theorem szL_app : ∀ (a b : List S25), szL (a ++ b) = szL a + szL b
 | [], b => by rw [List.nil_append, szL_nil, Nat.zero_add]
 | x :: r, b => by rw [List.cons_append, szL_cons, szL_cons, szL_app r b]; omega
def fst (l : List S25) (m : Nat) : Int := if l.isEmpty = true then -1 else (m : Int)
def knL : List S25 → Int → Nat → List S39
 | [], _, _ => []
 | x :: r, up, m => (⟨x.f0, x.f1, x.f2, x.f3, up, fst x.f5 (m + 1), fst r (m + 1 + szL x.f5)⟩ : S39) :: (knL x.f5 (m : Int) (m + 1) ++ knL r up (m + 1 + szL x.f5))
termination_by l => SizeOf.sizeOf l
decreasing_by all_goals first | exact szk _ _ | exact szr _ _
theorem knL_nil (up : Int) (m : Nat) : knL [] up m = [] := by rw [knL]
theorem knL_cons (x : S25) (r : List S25) (up : Int) (m : Nat) : knL (x :: r) up m = (⟨x.f0, x.f1, x.f2, x.f3, up, fst x.f5 (m + 1), fst r (m + 1 + szL x.f5)⟩ : S39) :: (knL x.f5 (m : Int) (m + 1) ++ knL r up (m + 1 + szL x.f5)) := by rw [knL]
def nmL : List S25 → List (List Int)
 | [] => []
 | x :: r => x.f4 :: (nmL x.f5 ++ nmL r)
termination_by l => SizeOf.sizeOf l
decreasing_by all_goals first | exact szk _ _ | exact szr _ _
theorem nmL_nil : nmL [] = [] := by rw [nmL]
theorem nmL_cons (x : S25) (r : List S25) : nmL (x :: r) = x.f4 :: (nmL x.f5 ++ nmL r) := by rw [nmL]
theorem nmL_app : ∀ (a b : List S25), nmL (a ++ b) = nmL a ++ nmL b
 | [], b => by rw [List.nil_append, nmL_nil, List.nil_append]
 | x :: r, b => by rw [List.cons_append, nmL_cons, nmL_cons, nmL_app r b, List.cons_append, List.append_assoc]
theorem knL_len : ∀ (n : Nat) (l : List S25) (up : Int) (m : Nat), SizeOf.sizeOf l < n → (knL l up m).length = szL l
 | 0, _, _, _, h => absurd h (Nat.not_lt_zero _)
 | n + 1, [], _, _, _ => by rw [knL_nil, szL_nil]; rfl
 | n + 1, x :: r, up, m, h => by
  have h1 := szk x r
  have h2 := szr x r
  rw [knL_cons, szL_cons, List.length_cons, List.length_append, knL_len n _ _ _ (by omega), knL_len n _ _ _ (by omega)]
  omega
theorem kn_len (l : List S25) (up : Int) (m : Nat) : (knL l up m).length = szL l := knL_len _ l up m (Nat.lt_succ_self _)
theorem nmL_len : ∀ (n : Nat) (l : List S25), SizeOf.sizeOf l < n → (nmL l).length = szL l
 | 0, _, h => absurd h (Nat.not_lt_zero _)
 | n + 1, [], _ => by rw [nmL_nil, szL_nil]; rfl
 | n + 1, x :: r, h => by
  have h1 := szk x r
  have h2 := szr x r
  rw [nmL_cons, szL_cons, List.length_cons, List.length_append, nmL_len n _ (by omega), nmL_len n _ (by omega)]
  omega
theorem nm_len (l : List S25) : (nmL l).length = szL l := nmL_len _ l (Nat.lt_succ_self _)
/-! ### one branch more behind others -/
def setF (k : S39) (v : Int) : S39 := { k with f5 := v }
def setN (k : S39) (v : Int) : S39 := { k with f6 := v }
def lastL : List S25 → Nat → Nat
 | [], m => m
 | x :: r, m => if r.isEmpty = true then m else lastL r (m + 1 + szL x.f5)
theorem lastL_ge : ∀ (l : List S25) (m : Nat), m ≤ lastL l m
 | [], m => Nat.le_refl _
 | x :: r, m => by
  rw [lastL]
  by_cases h : r.isEmpty = true
  ·rw [if_pos h]; exact Nat.le_refl _
  ·rw [if_neg h]
   have := lastL_ge r (m + 1 + szL x.f5)
   omega
theorem lastL_lt : ∀ (l : List S25) (m : Nat), l ≠ [] → lastL l m < m + szL l
 | [], m, h => absurd rfl h
 | x :: r, m, _ => by
  rw [lastL, szL_cons]
  by_cases h : r.isEmpty = true
  ·rw [if_pos h]; omega
  ·rw [if_neg h]
   have := lastL_lt r (m + 1 + szL x.f5) (fun e => h (by rw [e]; rfl))
   omega
theorem lastL_snoc : ∀ (l : List S25) (y : S25) (m : Nat), lastL (l ++ [y]) m = m + szL l
 | [], y, m => by rw [szL_nil]; rfl
 | x :: r, y, m => by
  rw [List.cons_append, lastL, if_neg (by cases r <;> simp), lastL_snoc r y, szL_cons]
  omega
theorem knL_snoc (up : Int) (y : S25) : ∀ (l : List S25) (m : Nat), l ≠ [] →
  knL (l ++ [y]) up m = ((knL l up m).set (lastL l m - m) (setN ((knL l up m).getD (lastL l m - m) z39) ((m + szL l : Nat) : Int))) ++ knL [y] up (m + szL l)
 | [], m, h => absurd rfl h
 | [x], m, _ => by
  have e : lastL [x] m = m := by rw [lastL]; rfl
  rw [e, Nat.sub_self, List.cons_append, List.nil_append, knL_cons x [y], knL_cons x [], szL_cons, szL_nil, knL_nil, List.append_nil, List.set_cons_zero, List.getD_cons_zero, List.cons_append]
  unfold setN fst
  rw [if_neg (show ¬ ([y] : List S25).isEmpty = true by simp)]
  rw [show m + (1 + szL x.f5 + 0) = m + 1 + szL x.f5 by omega]
 | x :: x2 :: r, m, _ => by
  have ih := knL_snoc up y (x2 :: r) (m + 1 + szL x.f5) (by simp)
  have hl : lastL (x :: x2 :: r) m = lastL (x2 :: r) (m + 1 + szL x.f5) := by rw [lastL, if_neg (by simp)]
  have hge := lastL_ge (x2 :: r) (m + 1 + szL x.f5)
  have hk := kn_len x.f5 (m : Int) (m + 1)
  obtain ⟨d, hd⟩ : ∃ d, lastL (x2 :: r) (m + 1 + szL x.f5) = (m + 1 + szL x.f5) + d := ⟨_, (Nat.add_sub_cancel' hge).symm⟩
  rw [hd, Nat.add_sub_cancel_left] at ih
  rw [hl, hd, List.cons_append, knL_cons x, knL_cons x (x2 :: r), ih, show m + 1 + szL x.f5 + d - m = (szL x.f5 + d) + 1 by omega, List.set_cons_succ, List.getD_cons_succ]
  have e1 : (knL x.f5 (m : Int) (m + 1) ++ knL (x2 :: r) up (m + 1 + szL x.f5)).getD (szL x.f5 + d) z39 = (knL (x2 :: r) up (m + 1 + szL x.f5)).getD d z39 := by
   rw [List.getD_eq_getElem?_getD, List.getElem?_append_right (by omega), hk, Nat.add_sub_cancel_left, List.getD_eq_getElem?_getD]
  have e2 : ∀ v, (knL x.f5 (m : Int) (m + 1) ++ knL (x2 :: r) up (m + 1 + szL x.f5)).set (szL x.f5 + d) v = knL x.f5 (m : Int) (m + 1) ++ (knL (x2 :: r) up (m + 1 + szL x.f5)).set d v := fun v => by
   rw [List.set_append_right _ _ (by omega), hk, Nat.add_sub_cancel_left]
  rw [e1, e2, szL_cons x, show m + (1 + szL x.f5 + szL (x2 :: r)) = m + 1 + szL x.f5 + szL (x2 :: r) by omega]
  simp only [List.cons_append, List.append_assoc]
  rfl
end Go.Proofs.Ytemdnmidhmddlaa.Tree
