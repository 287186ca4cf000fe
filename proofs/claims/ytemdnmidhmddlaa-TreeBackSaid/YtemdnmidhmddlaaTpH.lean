/- Two branches, the same or not; one that is right: what the document answers, told by fuel. Conditions: as the theorems say. -/
import Derived.Test.YtemdnmidhmddlaaTpG
import Derived.Test.YtemdnmidhmddlaaTrG
import Derived.Test.YtemdnmidhmddlaaPAllx11
import Derived.Test.YtemdnmidhmddlaaPAllx14
import Derived.Test.YtemdnmidhmddlaaPAllx15
namespace Go.Proofs.Ytemdnmidhmddlaa.Tree
open Go Go.RowKit Go.Proofs.YtemdnmidhmddlaaW.PrintWords Go.Proofs.YtemdnmidhmddlaaW.PrintLast Go.Proofs.YtemdnmidhmddlaaW.PrintMore Go.Proofs.Ytemdnmidhmddlaa.PAll
set_option linter.unusedVariables false
set_option linter.unusedSimpArgs false
theorem rd_at {l : List Int} {i : Nat} {y : Int} (h : l[i]? = some y) : rd l (i : Int) = y := by
 unfold rd
 rw [Int.toNat_natCast, List.getD_eq_getElem?_getD, h]
 rfl
theorem ex_at {α : Type} {l : List α} {i : Nat} (h : i < l.length) : ∃ x, l[i]? = some x := ⟨l[i], List.getElem?_eq_getElem h⟩
theorem ne_at {l m : List Int} {i : Nat} {x y : Int} (hx : l[i]? = some x) (hy : m[i]? = some y) (h : ¬ x = y) : ¬ l = m := fun e => by
 rw [e, hy] at hx
 exact h (Option.some.inj hx).symm
theorem eql_ev (l m : List Int) (hl : l.length < 17592186044416) : Ev (fun k => slices_Equal_int_int.f k l m) (decide (l = m)) := by
 by_cases hlen : l.length = m.length
 ·have loop : ∀ (q i : Nat), l.length = i + q → l.take i = m.take i → Ev (fun k => slices_Equal_int_int.l0 k l m (l.length : Int) (i : Int)) (decide (l = m)) := by
   intro q
   induction q with
   | zero =>
    intro i h ht
    have e : l = m := by
     rw [List.take_of_length_le (by omega), List.take_of_length_le (by omega)] at ht
     exact ht
    rw [decide_eq_true e]
    exact Ev.step (f := fun _ => some true) (fun k => by rw [slices_Equal_int_int.l0, if_neg (by omega)]) (Ev.now _)
   | succ q ih =>
    intro i h ht
    obtain ⟨x, hx⟩ := ex_at (l := l) (i := i) (by omega)
    obtain ⟨y, hy⟩ := ex_at (l := m) (i := i) (by omega)
    have e3 : wrap64 ((i : Int) + 1) = ((i + 1 : Nat) : Int) := wnat (i + 1) (by omega)
    by_cases c : x = y
    ·subst c
     exact Ev.step (fun k => by rw [slices_Equal_int_int.l0, if_pos (by omega), if_pos (by omega), if_pos (by omega), if_pos (by omega), rd_at hx, rd_at hy, if_pos rfl, e3]) (ih (i + 1) (by omega) (by rw [take1 hx, take1 hy, ht]))
    ·rw [decide_eq_false (ne_at hx hy c)]
     exact Ev.step (f := fun _ => some false) (fun k => by rw [slices_Equal_int_int.l0, if_pos (by omega), if_pos (by omega), if_pos (by omega), if_pos (by omega), rd_at hx, rd_at hy, if_neg c]) (Ev.now _)
  refine Ev.congr (fun k => ?_) (loop l.length 0 (by omega) (by rw [List.take_zero, List.take_zero]))
  unfold slices_Equal_int_int.f
  exact if_pos (by omega)
 ·rw [decide_eq_false (fun e => hlen (by rw [e]))]
  refine Ev.congr (f := fun _ => some false) (fun k => ?_) (Ev.now _)
  unfold slices_Equal_int_int.f
  exact if_neg (by omega)
theorem eqr_ev (l m : List Int) (hl : l.length < 17592186044416) : Ev (fun k => orielref06_ints.f k l m) (decide (l = m)) := by
 by_cases hlen : l.length = m.length
 ·have loop : ∀ (q i : Nat), l.length = i + q → l.take i = m.take i → Ev (fun k => orielref06_ints.l0 k l m (i : Int)) (decide (l = m)) := by
   intro q
   induction q with
   | zero =>
    intro i h ht
    have e : l = m := by
     rw [List.take_of_length_le (by omega), List.take_of_length_le (by omega)] at ht
     exact ht
    rw [decide_eq_true e]
    exact Ev.step (f := fun _ => some true) (fun k => by rw [orielref06_ints.l0, if_neg (by omega)]) (Ev.now _)
   | succ q ih =>
    intro i h ht
    obtain ⟨x, hx⟩ := ex_at (l := l) (i := i) (by omega)
    obtain ⟨y, hy⟩ := ex_at (l := m) (i := i) (by omega)
    have e3 : wrap64 ((i : Int) + 1) = ((i + 1 : Nat) : Int) := wnat (i + 1) (by omega)
    by_cases c : x = y
    ·subst c
     exact Ev.step (fun k => by rw [orielref06_ints.l0, if_pos (by omega), if_pos (by omega), if_pos (by omega), rd_at hx, rd_at hy, if_pos rfl, e3]) (ih (i + 1) (by omega) (by rw [take1 hx, take1 hy, ht]))
    ·rw [decide_eq_false (ne_at hx hy c)]
     exact Ev.step (f := fun _ => some false) (fun k => by rw [orielref06_ints.l0, if_pos (by omega), if_pos (by omega), if_pos (by omega), rd_at hx, rd_at hy, if_neg c]) (Ev.now _)
  refine Ev.congr (fun k => ?_) (loop l.length 0 (by omega) (by rw [List.take_zero, List.take_zero]))
  unfold orielref06_ints.f
  exact if_pos (by omega)
 ·rw [decide_eq_false (fun e => hlen (by rw [e]))]
  refine Ev.congr (f := fun _ => some false) (fun k => ?_) (Ev.now _)
  unfold orielref06_ints.f
  exact if_neg (by omega)
/-! ### the same -/
def sameL (s : S25 → S25 → Bool) : List S25 → List S25 → Bool
 | [], [] => true
 | [], _ :: _ => false
 | _ :: _, [] => false
 | x :: r, y :: t => s x y && sameL s r t
theorem sameL_len {s : S25 → S25 → Bool} : ∀ {xs ys : List S25}, xs.length ≠ ys.length → sameL s xs ys = false
 | [], [], h => absurd rfl h
 | [], _ :: _, _ => rfl
 | _ :: _, [], _ => rfl
 | a :: x, b :: y, h => by
  rw [sameL, sameL_len (xs := x) (ys := y) (by rw [List.length_cons, List.length_cons] at h; omega), Bool.and_false]
theorem drop_at {α : Type} {l : List α} {i : Nat} {x : α} (h : l[i]? = some x) : l.drop i = x :: l.drop (i + 1) := by
 obtain ⟨hi, e⟩ := List.getElem?_eq_some_iff.mp h
 rw [List.drop_eq_getElem_cons hi, e]
theorem sameL_at {s : S25 → S25 → Bool} {xs ys : List S25} {i : Nat} {x y : S25} (hx : xs[i]? = some x) (hy : ys[i]? = some y) : sameL s (xs.drop i) (ys.drop i) = (s x y && sameL s (xs.drop (i + 1)) (ys.drop (i + 1))) := by
 rw [drop_at hx, drop_at hy, sameL]
theorem sameL_refl {s : S25 → S25 → Bool} (h : ∀ x, s x x = true) : ∀ l : List S25, sameL s l l = true
 | [] => rfl
 | x :: r => by rw [sameL, h, sameL_refl h r]; rfl
def sameN : Nat → S25 → S25 → Bool
 | 0, _, _ => true
 | n + 1, x, y => decide (x.f0 = y.f0) && (decide (x.f1 = y.f1) && (decide (x.f2 = y.f2) && (decide (x.f3 = y.f3) && (decide (x.f4 = y.f4) && sameL (sameN n) x.f5 y.f5))))
theorem sameN_refl : ∀ (n : Nat) (x : S25), sameN n x x = true
 | 0, _ => rfl
 | n + 1, x => by
  rw [sameN, sameL_refl (sameN_refl n)]
  simp
theorem mem_sz {x y : S25} {i : Nat} (h : x.f5[i]? = some y) : SizeOf.sizeOf y < SizeOf.sizeOf x := by
 have h1 := szx x
 have h2 := List.sizeOf_lt_of_mem (List.mem_of_getElem? h)
 omega
set_option maxHeartbeats 8000000 in
theorem same_ev : ∀ (n : Nat) (x y : S25), SizeOf.sizeOf x < n → GoodB x → szL [x] ≤ 1000000 → Ev (fun k => orielref06_Same.f k x.f0 x.f1 x.f2 x.f3 x.f4 x.f5 y.f0 y.f1 y.f2 y.f3 y.f4 y.f5) (sameN n x y)
 | 0, _, _, h, _, _ => absurd h (Nat.not_lt_zero _)
 | n + 1, x, y, h, hg, hs => by
  have hF : Ev (fun k => orielref06_Same.j0 k true x.f0 x.f1 x.f2 x.f3 x.f4 x.f5 y.f0 y.f1 y.f2 y.f3 y.f4 y.f5) false :=
   Ev.step (f := fun _ => some false) (fun k => by rw [orielref06_Same.j0, if_pos rfl]) (Ev.now _)
  have hx5 := len_le_szL x.f5
  have hx1 := szL_one x
  by_cases c0 : x.f0 = y.f0
  case neg =>
   rw [sameN, decide_eq_false c0, Bool.false_and]
   exact Ev.step (fun k => by rw [orielref06_Same.f, if_neg c0]) hF
  by_cases c1 : x.f1 = y.f1
  case neg =>
   rw [sameN, decide_eq_false c1, Bool.false_and, Bool.and_false]
   exact Ev.step (fun k => by rw [orielref06_Same.f, if_pos c0, if_neg c1]) hF
  by_cases c2 : x.f2 = y.f2
  case neg =>
   rw [sameN, decide_eq_false c2, Bool.false_and, Bool.and_false, Bool.and_false]
   exact Ev.step (fun k => by rw [orielref06_Same.f, if_pos c0, if_pos c1, if_neg c2]) hF
  by_cases c3 : x.f3 = y.f3
  case neg =>
   rw [sameN, decide_eq_false c3, Bool.false_and, Bool.and_false, Bool.and_false, Bool.and_false]
   exact Ev.step (fun k => by rw [orielref06_Same.f, if_pos c0, if_pos c1, if_pos c2, if_neg c3]) hF
  by_cases c4 : x.f4 = y.f4
  case neg =>
   rw [sameN, decide_eq_false c4, Bool.false_and, Bool.and_false, Bool.and_false, Bool.and_false, Bool.and_false]
   have hi := eqr_ev x.f4 y.f4 hg.n
   rw [decide_eq_false c4] at hi
   refine Ev.step (fun k => ?_) (Ev.bind (f := fun k t => if t = true then orielref06_Same.j0 k ((x.f5.length : Int) != (y.f5.length : Int)) x.f0 x.f1 x.f2 x.f3 x.f4 x.f5 y.f0 y.f1 y.f2 y.f3 y.f4 y.f5 else orielref06_Same.j0 k true x.f0 x.f1 x.f2 x.f3 x.f4 x.f5 y.f0 y.f1 y.f2 y.f3 y.f4 y.f5) hi (Ev.congr (fun k => if_neg (by decide)) hF))
   rw [orielref06_Same.f, if_pos c0, if_pos c1, if_pos c2, if_pos c3]
  have hi := eqr_ev x.f4 y.f4 hg.n
  rw [decide_eq_true c4] at hi
  have key : Ev (fun k => orielref06_Same.j0 k ((x.f5.length : Int) != (y.f5.length : Int)) x.f0 x.f1 x.f2 x.f3 x.f4 x.f5 y.f0 y.f1 y.f2 y.f3 y.f4 y.f5) (sameL (sameN n) x.f5 y.f5) := by
   by_cases hlen : x.f5.length = y.f5.length
   case neg =>
    rw [sameL_len hlen, show ((x.f5.length : Int) != (y.f5.length : Int)) = true by rw [bne_iff_ne]; omega]
    exact hF
   rw [show ((x.f5.length : Int) != (y.f5.length : Int)) = false by rw [hlen, bne_self_eq_false]]
   have loop : ∀ (q i : Nat), x.f5.length = i + q → Ev (fun k => orielref06_Same.l0 k (i : Int) x.f0 x.f1 x.f2 x.f3 x.f4 x.f5 y.f0 y.f1 y.f2 y.f3 y.f4 y.f5) (sameL (sameN n) (x.f5.drop i) (y.f5.drop i)) := by
    intro q
    induction q with
    | zero =>
     intro i hq
     rw [List.drop_eq_nil_of_le (by omega), List.drop_eq_nil_of_le (by omega)]
     exact Ev.step (f := fun _ => some true) (fun k => by rw [orielref06_Same.l0, if_neg (by omega)]) (Ev.now _)
    | succ q ih =>
     intro i hq
     obtain ⟨a, ha⟩ := ex_at (l := x.f5) (i := i) (by omega)
     obtain ⟨b, hb⟩ := ex_at (l := y.f5) (i := i) (by omega)
     have o1 : (i : Int) < (x.f5.length : Int) := by omega
     have o2 : (0 : Int) ≤ (i : Int) := by omega
     have o3 : (i : Int) < (y.f5.length : Int) := by omega
     have e3 : wrap64 ((i : Int) + 1) = ((i + 1 : Nat) : Int) := wnat (i + 1) (by omega)
     have hm := List.mem_of_getElem? ha
     have hs2 := szL_mem2 hm
     have hz := mem_sz ha
     have hk := same_ev n a b (by omega) (hg.k a hm) (by omega)
     rw [sameL_at ha hb]
     cases hv : sameN n a b with
     | false =>
      rw [hv] at hk
      rw [Bool.false_and]
      refine Ev.step (fun k => ?_) (Ev.bind (f := fun k t => if t = true then orielref06_Same.l0 k ((i + 1 : Nat) : Int) x.f0 x.f1 x.f2 x.f3 x.f4 x.f5 y.f0 y.f1 y.f2 y.f3 y.f4 y.f5 else some false) hk (Ev.congr (f := fun _ => some false) (fun k => if_neg (by decide)) (Ev.now _)))
      rw [orielref06_Same.l0, if_pos o1, if_pos o2, if_pos o3, rd25 ha, rd25 hb, e3]
     | true =>
      rw [hv] at hk
      rw [Bool.true_and]
      refine Ev.step (fun k => ?_) (Ev.bind (f := fun k t => if t = true then orielref06_Same.l0 k ((i + 1 : Nat) : Int) x.f0 x.f1 x.f2 x.f3 x.f4 x.f5 y.f0 y.f1 y.f2 y.f3 y.f4 y.f5 else some false) hk (Ev.congr (fun k => if_pos rfl) (ih (i + 1) (by omega))))
      rw [orielref06_Same.l0, if_pos o1, if_pos o2, if_pos o3, rd25 ha, rd25 hb, e3]
   refine Ev.step (fun k => ?_) (loop x.f5.length 0 (by omega))
   rw [orielref06_Same.j0]
   exact if_neg (by decide)
  rw [sameN, decide_eq_true c0, decide_eq_true c1, decide_eq_true c2, decide_eq_true c3, decide_eq_true c4]
  simp only [Bool.true_and]
  refine Ev.step (fun k => ?_) (Ev.bind (f := fun k t => if t = true then orielref06_Same.j0 k ((x.f5.length : Int) != (y.f5.length : Int)) x.f0 x.f1 x.f2 x.f3 x.f4 x.f5 y.f0 y.f1 y.f2 y.f3 y.f4 y.f5 else orielref06_Same.j0 k true x.f0 x.f1 x.f2 x.f3 x.f4 x.f5 y.f0 y.f1 y.f2 y.f3 y.f4 y.f5) hi (Ev.congr (fun k => if_pos rfl) key))
  rw [orielref06_Same.f, if_pos c0, if_pos c1, if_pos c2, if_pos c3]
/-! ### right -/
def kidsR (r : S25 → Bool) (lo hi : Int) : Option Int → List S25 → Bool
 | _, [] => true
 | p, k :: l => (r k && (decide (k.f2 ≥ lo) && (decide (k.f3 ≤ hi) && (match p with | none => true | some q => decide (k.f2 ≥ q))))) && kidsR r lo hi (some k.f3) l
theorem kidsR_nil (r : S25 → Bool) (lo hi : Int) (p : Option Int) : kidsR r lo hi p [] = true := by
 cases p <;> rfl
def okP (p : Option Int) (v : Int) : Bool := match p with | none => true | some q => decide (v ≥ q)
theorem kidsR_cons (r : S25 → Bool) (lo hi : Int) (p : Option Int) (k : S25) (l : List S25) : kidsR r lo hi p (k :: l) = ((r k && (decide (k.f2 ≥ lo) && (decide (k.f3 ≤ hi) && okP p k.f2))) && kidsR r lo hi (some k.f3) l) := by
 cases p <;> rfl
theorem kidsR_lo {r : S25 → Bool} {lo hi : Int} : ∀ l : List S25, kidsR r lo hi none l = kidsR r lo hi (some lo) l
 | [] => rfl
 | k :: l => by
  rw [kidsR, kidsR]
  congr 1
  congr 1
  by_cases c : k.f2 ≥ lo
  ·rw [decide_eq_true c]
  ·rw [decide_eq_false c, Bool.false_and, Bool.false_and]
theorem rightL_eq {r : S25 → Bool} {lo hi : Int} : ∀ (l : List S25) (p : Int), (∀ k ∈ l, r k = true → k.f2 ≤ k.f3) → lo ≤ p → rightL r p l hi = (decide (p ≤ hi) && kidsR r lo hi (some p) l)
 | [], p, _, _ => by rw [rightL, kidsR, Bool.and_true]
 | k :: l, p, h, hp => by
  rw [rightL, kidsR]
  by_cases c : k.f2 < p ∨ r k = false
  ·rw [if_pos c]
   rcases c with c | c
   ·rw [show decide (k.f2 ≥ p) = false from decide_eq_false (by omega)]
    simp
   ·rw [c]
    simp
  ·rw [if_neg c]
   have c1 : ¬ k.f2 < p := fun q => c (Or.inl q)
   have c2 : r k = true := by
    cases e : r k with
    | true => rfl
    | false => exact absurd (Or.inr e) c
   have c3 := h k List.mem_cons_self c2
   rw [rightL_eq (lo := lo) l k.f3 (fun k hk => h k (List.mem_cons_of_mem _ hk)) (by omega), c2, show decide (k.f2 ≥ p) = true from decide_eq_true (by omega), show decide (k.f2 ≥ lo) = true from decide_eq_true (by omega)]
   simp only [Bool.true_and, Bool.and_true]
   by_cases c4 : k.f3 ≤ hi
   ·rw [show decide (p ≤ hi) = true from decide_eq_true (by omega)]
    simp
   ·rw [show decide (k.f3 ≤ hi) = false from decide_eq_false c4]
    simp
theorem rightN_le : ∀ (n : Nat) (x : S25), rightN (n + 1) x = true → x.f2 ≤ x.f3 := fun n x h => by
 rw [rightN] at h
 by_cases c : headR x = true
 ·rw [if_pos c] at h
  cases h
 ·unfold headR at c
  by_cases c2 : x.f2 > x.f3
  ·exact absurd (by rw [decide_eq_true c2]; simp) c
  ·omega
theorem rightN_eq (n : Nat) (x : S25) : rightN (n + 2) x = ((decide (x.f2 ≥ 0) && decide (x.f2 ≤ x.f3)) && (x.f4.all (fun v => !outB x.f2 x.f3 v) && kidsR (rightN (n + 1)) x.f2 x.f3 none x.f5)) := by
 have e : ∀ l : List Int, l.all (fun v => !outB x.f2 x.f3 v) = !l.any (outB x.f2 x.f3) := fun l => by
  induction l with
  | nil => rfl
  | cons a l ih => rw [List.all_cons, List.any_cons, ih, Bool.not_or]
 rw [rightN, headR, e]
 by_cases c1 : x.f2 < 0
 ·rw [decide_eq_true c1, show decide (x.f2 ≥ 0) = false from decide_eq_false (by omega)]
  simp
 ·by_cases c2 : x.f2 > x.f3
  ·rw [decide_eq_true c2, show decide (x.f2 ≤ x.f3) = false from decide_eq_false (by omega)]
   simp
  ·rw [decide_eq_false c1, decide_eq_false c2, show decide (x.f2 ≥ 0) = true from decide_eq_true (by omega), show decide (x.f2 ≤ x.f3) = true from decide_eq_true (by omega)]
   simp only [Bool.false_or, Bool.true_and]
   cases x.f4.any (outB x.f2 x.f3) with
   | true => rfl
   | false =>
    rw [if_neg (by decide), rightL_eq (lo := x.f2) x.f5 x.f2 (fun k _ hk => rightN_le n k hk) (Int.le_refl _), show decide (x.f2 ≤ x.f3) = true from decide_eq_true (by omega), kidsR_lo]
    rfl
set_option maxHeartbeats 8000000 in
theorem right_ev : ∀ (n : Nat) (x : S25), SizeOf.sizeOf x < n → GoodB x → szL [x] ≤ 1000000 → Ev (fun k => orielref06_Right.f k x.f0 x.f1 x.f2 x.f3 x.f4 x.f5) (rightN (n + 1) x)
 | 0, _, h, _, _ => absurd h (Nat.not_lt_zero _)
 | n + 1, x, h, hg, hs => by
  have hx5 := len_le_szL x.f5
  have hx1 := szL_one x
  have hn := hg.n
  have l1 : ∀ (q i : Nat) (ok : Bool) (p : Option Int), x.f5.length = i + q → (i = 0 ∧ p = none ∨ ∃ j a, i = j + 1 ∧ x.f5[j]? = some a ∧ p = some a.f3) → Ev (fun k => orielref06_Right.l1 k ok (i : Int) x.f0 x.f1 x.f2 x.f3 x.f4 x.f5) (ok && kidsR (rightN (n + 1)) x.f2 x.f3 p (x.f5.drop i)) := by
   intro q
   induction q with
   | zero =>
    intro i ok p hq hp
    rw [List.drop_eq_nil_of_le (by omega), kidsR_nil, Bool.and_true]
    exact Ev.step (f := fun _ => some ok) (fun k => by rw [orielref06_Right.l1, if_neg (by omega)]) (Ev.now _)
   | succ q ih =>
    intro i ok p hq hp
    obtain ⟨a, ha⟩ := ex_at (l := x.f5) (i := i) (by omega)
    have o1 : (i : Int) < (x.f5.length : Int) := by omega
    have o2 : (0 : Int) ≤ (i : Int) := by omega
    have e3 : wrap64 ((i : Int) + 1) = ((i + 1 : Nat) : Int) := wnat (i + 1) (by omega)
    have nx := fun ok2 => ih (i + 1) ok2 (some a.f3) (by omega) (Or.inr ⟨i, a, rfl, ha, rfl⟩)
    rw [drop_at ha, kidsR_cons]
    cases ok with
    | false =>
     rw [Bool.false_and]
     have := nx false
     rw [Bool.false_and] at this
     exact Ev.step (fun k => by rw [orielref06_Right.l1, if_pos o1, if_pos o2, if_neg (by decide), e3]) this
    | true =>
     have hm := List.mem_of_getElem? ha
     have hs2 := szL_mem2 hm
     have hz := mem_sz ha
     have hk := right_ev n a (by omega) (hg.k a hm) (by omega)
     rw [Bool.true_and]
     have n0 := nx false
     rw [Bool.false_and] at n0
     cases hv : rightN (n + 1) a with
     | false =>
      rw [hv] at hk
      simp only [Bool.false_and]
      refine Ev.step (fun k => ?_) (Ev.bind (f := fun k t => if t = true then (if a.f2 ≥ x.f2 then (if a.f3 ≤ x.f3 then (if (i : Int) = 0 then orielref06_Right.l1 k true ((i + 1 : Nat) : Int) x.f0 x.f1 x.f2 x.f3 x.f4 x.f5 else (if 0 ≤ wrap64 ((i : Int) - 1) then (if wrap64 ((i : Int) - 1) < (x.f5.length : Int) then orielref06_Right.l1 k (decide (a.f2 ≥ (rd_T25 x.f5 (wrap64 ((i : Int) - 1))).f3)) ((i + 1 : Nat) : Int) x.f0 x.f1 x.f2 x.f3 x.f4 x.f5 else none) else none)) else orielref06_Right.l1 k false ((i + 1 : Nat) : Int) x.f0 x.f1 x.f2 x.f3 x.f4 x.f5) else orielref06_Right.l1 k false ((i + 1 : Nat) : Int) x.f0 x.f1 x.f2 x.f3 x.f4 x.f5) else orielref06_Right.l1 k false ((i + 1 : Nat) : Int) x.f0 x.f1 x.f2 x.f3 x.f4 x.f5) hk (Ev.congr (fun k => if_neg (by decide)) n0))
      rw [orielref06_Right.l1, if_pos o1, if_pos o2, if_pos rfl, rd25 ha, e3]
     | true =>
      rw [hv] at hk
      simp only [Bool.true_and]
      refine Ev.step (fun k => ?_) (Ev.bind (f := fun k t => if t = true then (if a.f2 ≥ x.f2 then (if a.f3 ≤ x.f3 then (if (i : Int) = 0 then orielref06_Right.l1 k true ((i + 1 : Nat) : Int) x.f0 x.f1 x.f2 x.f3 x.f4 x.f5 else (if 0 ≤ wrap64 ((i : Int) - 1) then (if wrap64 ((i : Int) - 1) < (x.f5.length : Int) then orielref06_Right.l1 k (decide (a.f2 ≥ (rd_T25 x.f5 (wrap64 ((i : Int) - 1))).f3)) ((i + 1 : Nat) : Int) x.f0 x.f1 x.f2 x.f3 x.f4 x.f5 else none) else none)) else orielref06_Right.l1 k false ((i + 1 : Nat) : Int) x.f0 x.f1 x.f2 x.f3 x.f4 x.f5) else orielref06_Right.l1 k false ((i + 1 : Nat) : Int) x.f0 x.f1 x.f2 x.f3 x.f4 x.f5) else orielref06_Right.l1 k false ((i + 1 : Nat) : Int) x.f0 x.f1 x.f2 x.f3 x.f4 x.f5) hk (Ev.congr (f := fun k => if a.f2 ≥ x.f2 then (if a.f3 ≤ x.f3 then (if (i : Int) = 0 then orielref06_Right.l1 k true ((i + 1 : Nat) : Int) x.f0 x.f1 x.f2 x.f3 x.f4 x.f5 else (if 0 ≤ wrap64 ((i : Int) - 1) then (if wrap64 ((i : Int) - 1) < (x.f5.length : Int) then orielref06_Right.l1 k (decide (a.f2 ≥ (rd_T25 x.f5 (wrap64 ((i : Int) - 1))).f3)) ((i + 1 : Nat) : Int) x.f0 x.f1 x.f2 x.f3 x.f4 x.f5 else none) else none)) else orielref06_Right.l1 k false ((i + 1 : Nat) : Int) x.f0 x.f1 x.f2 x.f3 x.f4 x.f5) else orielref06_Right.l1 k false ((i + 1 : Nat) : Int) x.f0 x.f1 x.f2 x.f3 x.f4 x.f5) (fun k => if_pos rfl) ?_))
      ·rw [orielref06_Right.l1, if_pos o1, if_pos o2, if_pos rfl, rd25 ha, e3]
      ·by_cases c1 : a.f2 ≥ x.f2
       case neg =>
        rw [decide_eq_false c1]
        simp only [Bool.false_and]
        exact Ev.congr (fun k => if_neg c1) n0
       by_cases c2 : a.f3 ≤ x.f3
       case neg =>
        rw [decide_eq_false c2]
        simp only [Bool.false_and, Bool.and_false]
        exact Ev.congr (fun k => (if_pos c1).trans (if_neg c2)) n0
       rw [decide_eq_true c1, decide_eq_true c2]
       simp only [Bool.true_and]
       rcases hp with ⟨hi, rfl⟩ | ⟨j, b, hi, hb, rfl⟩
       ·have n1 := nx true
        refine Ev.congr (fun k => (if_pos c1).trans ((if_pos c2).trans (if_pos (by omega)))) n1
       ·have hj := (List.getElem?_eq_some_iff.mp hb).1
        have o3 : (0 : Int) ≤ (j : Int) := by omega
        have o4 : (j : Int) < (x.f5.length : Int) := by omega
        have o5 : ¬ (i : Int) = 0 := by omega
        have e4 : wrap64 ((i : Int) - 1) = (j : Int) := by
         rw [hi, show (((j + 1 : Nat) : Int) - 1) = (j : Int) by omega]
         exact wnat j (by omega)
        have n1 := nx (decide (a.f2 ≥ b.f3))
        refine Ev.congr (fun k => (if_pos c1).trans ((if_pos c2).trans ((if_neg o5).trans ?_))) n1
        rw [e4, if_pos o3, if_pos o4, rd25 hb]
  have l0 : ∀ (q i : Nat) (ok : Bool), x.f4.length = i + q → Ev (fun k => orielref06_Right.l0 k ok (i : Int) x.f0 x.f1 x.f2 x.f3 x.f4 x.f5) (ok && ((x.f4.drop i).all (fun v => !outB x.f2 x.f3 v) && kidsR (rightN (n + 1)) x.f2 x.f3 none x.f5)) := by
   intro q
   induction q with
   | zero =>
    intro i ok hq
    rw [List.drop_eq_nil_of_le (by omega), List.all_nil, Bool.true_and]
    have := l1 x.f5.length 0 ok none (by omega) (Or.inl ⟨rfl, rfl⟩)
    rw [List.drop_zero] at this
    exact Ev.step (fun k => by rw [orielref06_Right.l0, if_neg (by omega)]; rfl) this
   | succ q ih =>
    intro i ok hq
    obtain ⟨a, ha⟩ := ex_at (l := x.f4) (i := i) (by omega)
    have o1 : (i : Int) < (x.f4.length : Int) := by omega
    have o2 : (0 : Int) ≤ (i : Int) := by omega
    have e3 : wrap64 ((i : Int) + 1) = ((i + 1 : Nat) : Int) := wnat (i + 1) (by omega)
    have nx := fun ok2 => ih (i + 1) ok2 (by omega)
    have n0 := nx false
    rw [Bool.false_and] at n0
    rw [drop_at ha, List.all_cons]
    cases ok with
    | false =>
     rw [Bool.false_and]
     exact Ev.step (fun k => by rw [orielref06_Right.l0, if_pos o1, if_neg (by decide), e3]) n0
    | true =>
     rw [Bool.true_and]
     unfold outB
     by_cases c1 : a ≥ x.f2
     case neg =>
      rw [show decide (a < x.f2) = true from decide_eq_true (by omega)]
      simp only [Bool.true_or, Bool.not_true, Bool.false_and]
      exact Ev.step (fun k => by rw [orielref06_Right.l0, if_pos o1, if_pos rfl, if_pos o2, rd_at ha, if_neg c1, e3]) n0
     have n1 := nx (decide (a < x.f3))
     rw [show decide (a < x.f2) = false from decide_eq_false (by omega), show decide (a ≥ x.f3) = !decide (a < x.f3) by (by_cases c : a < x.f3; rw [decide_eq_true c, decide_eq_false (by omega)]; rfl; rw [decide_eq_false c, decide_eq_true (by omega)]; rfl)]
     simp only [Bool.false_or, Bool.not_not, Bool.and_assoc]
     unfold outB at n1
     exact Ev.step (fun k => by rw [orielref06_Right.l0, if_pos o1, if_pos rfl, if_pos o2, rd_at ha, if_pos c1, e3]) n1
  have j0 : ∀ ok : Bool, Ev (fun k => orielref06_Right.j0 k ok x.f0 x.f1 x.f2 x.f3 x.f4 x.f5) (ok && (x.f4.all (fun v => !outB x.f2 x.f3 v) && kidsR (rightN (n + 1)) x.f2 x.f3 none x.f5)) := fun ok => by
   have := l0 x.f4.length 0 ok (by omega)
   rw [List.drop_zero] at this
   exact Ev.step (fun k => by rw [orielref06_Right.j0]; rfl) this
  rw [rightN_eq]
  by_cases c1 : x.f2 ≥ 0
  ·rw [decide_eq_true c1, Bool.true_and]
   exact Ev.step (fun k => by rw [orielref06_Right.f, if_pos c1]) (j0 _)
  ·rw [decide_eq_false c1, Bool.false_and]
   exact Ev.step (fun k => by rw [orielref06_Right.f, if_neg c1]) (j0 _)
end Go.Proofs.Ytemdnmidhmddlaa.Tree
