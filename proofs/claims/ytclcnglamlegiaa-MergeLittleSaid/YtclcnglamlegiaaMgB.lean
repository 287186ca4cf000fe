/- What trial.Apply makes of files and changes, as plain lists. Plain theorems; no condition but those of each theorem. -/
import Derived.Test.YtclcnglamlegiaaMgA
import Derived.Test.YtclcnglamlegiaaPMLx8
namespace Go.Proofs.Ytclcnglamlegiaa.Mg
open Go Go.RowKit Go.Proofs.YtclcnglamlegiaaW.PrintWords Go.Proofs.YtclcnglamlegiaaW.PrintLast Go.Proofs.YtclcnglamlegiaaW.PrintMore Go.Proofs.Ytclcnglamlegiaa.PML
open Go.Proofs.Ytclcnglamlegiaa.Trial (ofl eof)
set_option linter.unusedVariables false
set_option linter.unusedSimpArgs false
theorem wid {x : Int} (h0 : -9223372036854775808 ≤ x) (h1 : x ≤ 9223372036854775807) : wrap64 x = x := wrap_id h0 h1
theorem wsucc (n : Nat) (h : n < 1000000000000) : wrap64 ((n : Int) + 1) = ((n + 1 : Nat) : Int) := by
  rw [wrap_id (by omega) (by omega)]
  omega
theorem rd34 (pre : List S34) (x : S34) (r : List S34) : rd_T34 (pre ++ x :: r) (pre.length : Int) = x := by
  unfold rd_T34
  rw [List.getD_eq_getElem?_getD]
  simp
theorem rd36 (pre : List S36) (x : S36) (r : List S36) : rd_T36 (pre ++ x :: r) (pre.length : Int) = x := by
  unfold rd_T36
  rw [List.getD_eq_getElem?_getD]
  simp
theorem app34 (pre : List S34) (x : S34) (r : List S34) : pre ++ x :: r = (pre ++ [x]) ++ r := by simp
theorem app36 (pre : List S36) (x : S36) (r : List S36) : pre ++ x :: r = (pre ++ [x]) ++ r := by simp
/-! ### what is wrong with changes -/
def inF (n : Nat) (x : S34) : Prop := 0 ≤ x.f0 ∧ x.f0 < (n : Int)
def badF (n : Nat) : List S34 → Option S34
  | [] => none
  | x :: r => if x.f0 < 0 then some x else if x.f0 ≥ (n : Int) then some x else badF n r
def badO : List S34 → Option S34
  | [] => none
  | [_] => none
  | x :: y :: r => if y.f0 < x.f0 then some y else badO (y :: r)
def chkS (L : List S34) : Nat → List S36 → Int × Int × Int
  | _, [] => (0, 0, 0)
  | i, x :: r => if checkSpec (x.f1.size : Int) (ofl (i : Int) L) = 0 then chkS L (i + 1) r else (checkSpec (x.f1.size : Int) (ofl (i : Int) L), (i : Int), 0)
def ordS (a : List S36) (L : List S34) : Int × Int × Int :=
  match badO L with
  | some c => (3, c.f0, c.f1)
  | none => chkS L 0 a
def fault (a : List S36) (L : List S34) : Int × Int × Int :=
  match badF a.length L with
  | some c => (2, c.f0, c.f1)
  | none => ordS a L
theorem badF_none {n : Nat} : ∀ {L : List S34}, badF n L = none → ∀ x ∈ L, inF n x
  | [], _, _, h => by cases h
  | y :: r, h, x, hx => by
    unfold badF at h
    by_cases c : y.f0 < 0
    · rw [if_pos c] at h; cases h
    · rw [if_neg c] at h
      by_cases d : y.f0 ≥ (n : Int)
      · rw [if_pos d] at h; cases h
      · rw [if_neg d] at h
        rcases List.mem_cons.mp hx with rfl | hx
        · exact ⟨by omega, by omega⟩
        · exact badF_none h x hx
theorem ofl_le (i : Int) (L : List S34) : (ofl i L).length ≤ L.length := Trial.ofl_len i L
theorem edits_l2 (a : List S36) (L : List S34) (ha : a.length ≤ 1000000) (hL : L.length ≤ 1000000) : ∀ (r pre : List S36), a = pre ++ r → Ev (fun k => Trial.trial_edits.l2 k L a (a.length : Int) (pre.length : Int)) (0, chkS L pre.length r) := by
  intro r
  induction r with
  | nil =>
    intro pre he
    have q : ¬ ((pre.length : Int) < (a.length : Int)) := by rw [he]; simp
    exact Ev.step (f := fun _ => some (0, 0, 0, 0)) (fun k => by rw [Trial.trial_edits.l2, if_neg q]) (Ev.now _)
  | cons x r ih =>
    intro pre he
    have hlen : a.length = pre.length + 1 + r.length := by rw [he]; simp only [List.length_append, List.length_cons]; omega
    have q1 : (pre.length : Int) < (a.length : Int) := by omega
    have q2 : (0 : Int) ≤ (pre.length : Int) := Int.natCast_nonneg _
    have e : rd_T36 a (pre.length : Int) = x := by rw [he]; exact rd36 pre x r
    have hi := ih (pre ++ [x]) (by rw [he, app36])
    rw [List.length_append] at hi
    refine Ev.step (f := fun k => (edit_Check.f k (x.f1.size : Int) (ofl (pre.length : Int) L)).bind fun t128 => if t128 = 0 then (Trial.trial_edits.l2 k L a (a.length : Int) (wrap64 ((pre.length : Int) + 1))) else (some (0, t128, (pre.length : Int), 0))) (fun k => by rw [Trial.trial_edits.l2, if_pos q1, if_pos q2, if_pos q1, e]) ?_
    have hc := Check_ev (x.f1.size : Int) (ofl (pre.length : Int) L) (by have := ofl_le (pre.length : Int) L; omega)
    refine Ev.bind (f := fun k t => _) hc ?_
    unfold chkS
    by_cases c : checkSpec (x.f1.size : Int) (ofl (pre.length : Int) L) = 0
    · rw [if_pos c]
      refine Ev.ite_pos c ?_
      rw [wsucc pre.length (by omega)]
      exact hi
    · rw [if_neg c]
      exact Ev.ite_neg c (Ev.now _)
theorem edits_l1 (a : List S36) (L : List S34) (ha : a.length ≤ 1000000) (hL : L.length ≤ 1000000) (R : Int × Int × Int × Int) (H : Ev (fun k => Trial.trial_edits.l2 k L a (a.length : Int) 0) R) : ∀ (r pre : List S34) (x : S34), L = pre ++ x :: r →
    Ev (fun k => Trial.trial_edits.l1 k a L L L (L.length : Int) ((pre.length : Int) + 1)) (match badO (x :: r) with | some c => (0, 3, c.f0, c.f1) | none => R) := by
  intro r
  induction r with
  | nil =>
    intro pre x he
    have q : ¬ ((pre.length : Int) + 1 < (L.length : Int)) := by rw [he]; simp
    refine Ev.step (fun k => ?_) H
    rw [Trial.trial_edits.l1, if_neg q]
  | cons y r ih =>
    intro pre x he
    have hlen : L.length = pre.length + 2 + r.length := by rw [he]; simp only [List.length_append, List.length_cons]; omega
    have q1 : (pre.length : Int) + 1 < (L.length : Int) := by omega
    have q2 : (0 : Int) ≤ (pre.length : Int) + 1 := by omega
    have q3 : (pre.length : Int) + 1 > 0 := by omega
    have w1 : wrap64 ((pre.length : Int) + 1 - 1) = (pre.length : Int) := by rw [wid (by omega) (by omega)]; omega
    have q4 : (0 : Int) ≤ (pre.length : Int) := Int.natCast_nonneg _
    have q5 : (pre.length : Int) < (L.length : Int) := by omega
    have e1 : rd_T34 L (pre.length : Int) = x := by rw [he]; exact rd34 pre x (y :: r)
    have e2 : rd_T34 L ((pre.length : Int) + 1) = y := by
      have := rd34 (pre ++ [x]) y r
      rw [List.append_assoc] at this
      rw [he]
      have e : ((pre ++ [x]).length : Int) = (pre.length : Int) + 1 := by simp
      rw [e] at this
      exact this
    have q6 : ([] : List S58).length < 4398046511104 := by decide
    have hi := ih (pre ++ [x]) y (by rw [he]; simp)
    have e3 : (((pre ++ [x]).length : Int)) + 1 = (pre.length : Int) + 1 + 1 := by simp
    rw [e3] at hi
    unfold badO
    by_cases c : y.f0 < x.f0
    · rw [if_pos c]
      refine Ev.step (f := fun _ => some (0, 3, y.f0, y.f1)) (fun k => ?_) (Ev.now _)
      rw [Trial.trial_edits.l1, w1, if_pos q1, if_pos q2, if_pos q1, if_pos q3, if_pos q4, if_pos q5, e1, e2, if_pos c]
    · rw [if_neg c]
      refine Ev.step (fun k => ?_) hi
      rw [Trial.trial_edits.l1, w1, if_pos q1, if_pos q2, if_pos q1, if_pos q3, if_pos q4, if_pos q5, e1, e2, if_neg c, if_pos q6, wid (x := (pre.length : Int) + 1 + 1) (by omega) (by omega)]
theorem edits_l1_all (a : List S36) (L : List S34) (ha : a.length ≤ 1000000) (hL : L.length ≤ 1000000) : Ev (fun k => Trial.trial_edits.l1 k a L L L (L.length : Int) 0) (0, ordS a L) := by
  have H := edits_l2 a L ha hL a [] rfl
  cases hl : L with
  | nil =>
    subst hl
    have q : ¬ ((0 : Int) < (([] : List S34).length : Int)) := by simp
    refine Ev.step (fun k => ?_) H
    rw [Trial.trial_edits.l1, if_neg q]
    rfl
  | cons x r =>
    have hi := edits_l1 a L ha hL (0, chkS L 0 a) H r [] x hl
    rw [← hl]
    have q1 : (0 : Int) < (L.length : Int) := by rw [hl]; simp only [List.length_cons]; omega
    have q3 : ¬ ((0 : Int) > 0) := by decide
    have q6 : ([] : List S58).length < 4398046511104 := by decide
    have e : (match badO (x :: r) with | some c => (0, 3, c.f0, c.f1) | none => (0, chkS L 0 a)) = ((0 : Int), ordS a L) := by
      unfold ordS
      rw [← hl]
      cases badO L <;> rfl
    rw [e] at hi
    refine Ev.step (fun k => ?_) hi
    have w1 : wrap64 (0 + 1) = ((([] : List S34).length : Int) + 1) := by rw [wid (by decide) (by decide)]; rfl
    rw [Trial.trial_edits.l1, if_pos q1, if_pos (Int.le_refl _), if_pos q1, if_neg q3, if_pos q6, w1]
theorem edits_l0 (a : List S36) (L : List S34) (ha : a.length ≤ 1000000) (hL : L.length ≤ 1000000) : ∀ (r pre : List S34), L = pre ++ r → (∀ x ∈ pre, inF a.length x) →
    Ev (fun k => Trial.trial_edits.l0 k a L L L (L.length : Int) (pre.length : Int)) (match badF a.length r with | some c => (0, 2, c.f0, c.f1) | none => (0, ordS a L)) := by
  intro r
  induction r with
  | nil =>
    intro pre he hp
    rw [List.append_nil] at he
    subst he
    have q : ¬ ((L.length : Int) < (L.length : Int)) := Int.lt_irrefl _
    refine Ev.step (fun k => ?_) (edits_l1_all a L ha hL)
    rw [Trial.trial_edits.l0, if_neg q, if_pos (show ∀ x ∈ L, 0 ≤ x.f0 ∧ x.f0 < (a.length : Int) from hp)]
  | cons x r ih =>
    intro pre he hp
    have hlen : L.length = pre.length + 1 + r.length := by rw [he]; simp only [List.length_append, List.length_cons]; omega
    have q1 : (pre.length : Int) < (L.length : Int) := by omega
    have q2 : (0 : Int) ≤ (pre.length : Int) := Int.natCast_nonneg _
    have e : rd_T34 L (pre.length : Int) = x := by rw [he]; exact rd34 pre x r
    unfold badF
    by_cases c : x.f0 < 0
    · rw [if_pos c]
      refine Ev.step (f := fun _ => some (0, 2, x.f0, x.f1)) (fun k => ?_) (Ev.now _)
      rw [Trial.trial_edits.l0, if_pos q1, if_pos q2, if_pos q1, e, if_pos c]
    · rw [if_neg c]
      by_cases d : x.f0 ≥ (a.length : Int)
      · rw [if_pos d]
        refine Ev.step (f := fun _ => some (0, 2, x.f0, x.f1)) (fun k => ?_) (Ev.now _)
        rw [Trial.trial_edits.l0, if_pos q1, if_pos q2, if_pos q1, e, if_neg c, if_pos d]
      · rw [if_neg d]
        have hi := ih (pre ++ [x]) (by rw [he, app34]) (fun y hy => by
          rcases List.mem_append.mp hy with hy | hy
          · exact hp y hy
          · rw [List.mem_singleton.mp hy]; exact ⟨by omega, by omega⟩)
        rw [List.length_append] at hi
        refine Ev.step (fun k => ?_) hi
        rw [Trial.trial_edits.l0, if_pos q1, if_pos q2, if_pos q1, e, if_neg c, if_neg d, wsucc pre.length (by omega)]
        rfl
theorem edits_ev (a : List S36) (L : List S34) (ha : a.length ≤ 1000000) (hL : L.length ≤ 1000000) : Ev (fun k => Trial.trial_edits.f k a L) (0, fault a L) := by
  have := edits_l0 a L ha hL L [] rfl (fun x hx => by cases hx)
  have e : (match badF a.length L with | some c => (0, 2, c.f0, c.f1) | none => (0, ordS a L)) = ((0 : Int), fault a L) := by
    unfold fault
    cases badF a.length L <;> rfl
  rw [e] at this
  exact this
/-! ### what they make -/
def okT (t : Int × Int × Int) : Prop := t = (0, 0, 0)
instance (t : Int × Int × Int) : Decidable (okT t) := by unfold okT; infer_instance
/-- A file, edited. -/
def edF (L : List S34) (i : Nat) (x : S36) : S36 := ⟨x.f0, ⟨(app (bs x.f1) (ofl (i : Int) L) 0).toArray⟩⟩
def edA (L : List S34) : Nat → List S36 → List S36
  | _, [] => []
  | i, x :: r => edF L i x :: edA L (i + 1) r
theorem edA_len (L : List S34) : ∀ (i : Nat) (a : List S36), (edA L i a).length = a.length
  | _, [] => rfl
  | i, x :: r => by rw [edA, List.length_cons, List.length_cons, edA_len L (i + 1) r]
theorem check_pos (n : Int) (l : List S58) (h : checkSpec n l ≠ 0) : 2 ≤ checkSpec n l := by
  unfold checkSpec at h ⊢
  split
  · split
    · rename_i h1 h2; rw [if_pos h1, if_pos h2] at h; exact absurd rfl h
    · decide
  · decide
theorem chkS_ok (L : List S34) : ∀ (a : List S36) (i : Nat), (chkS L i a).1 = 0 → chkS L i a = (0, 0, 0) ∧ ∀ (j : Nat) (x : S36), a[j]? = some x → checkSpec (x.f1.size : Int) (ofl ((i + j : Nat) : Int) L) = 0
  | [], i, h => ⟨rfl, fun j x hx => by simp at hx⟩
  | y :: r, i, h => by
    rw [chkS] at h ⊢
    by_cases c : checkSpec (y.f1.size : Int) (ofl (i : Int) L) = 0
    · rw [if_pos c] at h ⊢
      obtain ⟨h1, h2⟩ := chkS_ok L r (i + 1) h
      refine ⟨h1, fun j x hx => ?_⟩
      cases j with
      | zero =>
        rw [List.getElem?_cons_zero] at hx
        cases hx
        exact c
      | succ j =>
        rw [List.getElem?_cons_succ] at hx
        have := h2 j x hx
        rw [show i + (j + 1) = i + 1 + j by omega]
        exact this
    · rw [if_neg c] at h
      exact absurd h c
theorem fault_zero (a : List S36) (L : List S34) (h : (fault a L).1 = 0) : fault a L = (0, 0, 0) ∧ (∀ x ∈ L, inF a.length x) ∧ badO L = none ∧ ∀ (j : Nat) (x : S36), a[j]? = some x → checkSpec (x.f1.size : Int) (ofl (j : Int) L) = 0 := by
  unfold fault at h ⊢
  cases hb : badF a.length L with
  | some c => rw [hb] at h; exact absurd h (show ¬ ((2 : Int) = 0) by decide)
  | none =>
    rw [hb] at h
    change (ordS a L).1 = 0 at h
    unfold ordS at h ⊢
    cases ho : badO L with
    | some c => rw [ho] at h; exact absurd h (show ¬ ((3 : Int) = 0) by decide)
    | none =>
      rw [ho] at h
      obtain ⟨h1, h2⟩ := chkS_ok L a 0 h
      refine ⟨h1, badF_none hb, rfl, fun j x hx => ?_⟩
      have := h2 j x hx
      rwa [Nat.zero_add] at this
theorem fault_ne (a : List S36) (L : List S34) (h : ¬ okT (fault a L)) : (fault a L).1 ≠ 0 := fun e => h (fault_zero a L e).1
theorem ofl_size (i : Int) : ∀ L : List S34, sumSize (ofl i L) ≤ (L.map fun x => (x.f3.size : Int)).sum
  | [] => Int.le_refl _
  | x :: r => by
    have ih := ofl_size i r
    rw [List.map_cons, List.sum_cons]
    have e : ofl i (x :: r) = if (x.f0 == i) = true then eof x :: ofl i r else ofl i r := by
      unfold ofl
      rw [List.filter_cons]
      split <;> simp
    rw [e]
    split
    · show (x.f3.size : Int) + _ ≤ _
      omega
    · omega
def txt (L : List S34) : Int := (L.map fun x => (x.f3.size : Int)).sum
theorem txt_nonneg : ∀ L : List S34, 0 ≤ txt L
  | [] => Int.le_refl _
  | x :: r => by
    have := txt_nonneg r
    unfold txt at this ⊢
    rw [List.map_cons, List.sum_cons]
    omega
/-- No file is longer than n. -/
def fits (n : Int) (a : List S36) : Prop := a.length ≤ 4 ∧ ∀ x ∈ a, (x.f1.size : Int) ≤ n
theorem fits.mono {n m : Int} {a : List S36} (h : fits n a) (hm : n ≤ m) : fits m a := ⟨h.1, fun x hx => Int.le_trans (h.2 x hx) hm⟩
theorem edF_size (L : List S34) (i : Nat) (x : S36) (h : checkSpec (x.f1.size : Int) (ofl (i : Int) L) = 0) : ((edF L i x).f1.size : Int) ≤ x.f1.size + txt L := by
  have hc := chain_zero h
  have hl := bs_len x.f1
  rw [← hl] at hc
  have := app_len (bs x.f1) (ofl (i : Int) L) 0 hc
  have e : ((edF L i x).f1.size : Int) = ((app (bs x.f1) (ofl (i : Int) L) 0).length : Int) := by
    show (((⟨(app (bs x.f1) (ofl (i : Int) L) 0).toArray⟩ : ByteArray).size : Nat) : Int) = _
    congr 1
  have h2 := ofl_size (i : Int) L
  unfold txt
  omega
theorem edA_get (L : List S34) : ∀ (a : List S36) (i j : Nat), (edA L i a)[j]? = (a[j]?).map (edF L (i + j))
  | [], i, j => rfl
  | x :: r, i, 0 => rfl
  | x :: r, i, j + 1 => by
    rw [edA, List.getElem?_cons_succ, List.getElem?_cons_succ, edA_get L r (i + 1) j, show i + 1 + j = i + (j + 1) by omega]
theorem edA_fits (a : List S36) (L : List S34) (n : Int) (h : okT (fault a L)) (hf : fits n a) : fits (n + txt L) (edA L 0 a) := by
  have h0 := (fault_zero a L (by rw [h]))
  refine ⟨by rw [edA_len]; exact hf.1, fun x hx => ?_⟩
  obtain ⟨j, hj⟩ := List.getElem?_of_mem hx
  rw [edA_get, Option.map_eq_some_iff] at hj
  obtain ⟨y, hy, rfl⟩ := hj
  have h1 := h0.2.2.2 j y hy
  rw [Nat.zero_add]
  have h2 := edF_size L j y h1
  have h3 := hf.2 y (List.mem_of_getElem? hy)
  omega
theorem Apply_l0 (a : List S36) (L : List S34) (ha : a.length ≤ 1000000) (hL : L.length ≤ 1000000) (n : Int) (hf : fits n a) (hn : n + txt L ≤ 1000000000) (h : okT (fault a L)) : ∀ (r pre : List S36) (ipre : List S36), a = ipre ++ r → pre.length = ipre.length →
    Ev (fun k => Trial.trial_Apply.l0 k L a (pre ++ r) (a.length : Int) (pre.length : Int)) (pre ++ edA L pre.length r, 0, 0, 0) := by
  intro r
  induction r with
  | nil =>
    intro pre ipre he hp
    rw [List.append_nil] at he
    have q : ¬ ((pre.length : Int) < (a.length : Int)) := by rw [he, hp]; exact Int.lt_irrefl _
    exact Ev.step (f := fun _ => some (pre ++ ([] : List S36), 0, 0, 0)) (fun k => by rw [Trial.trial_Apply.l0, if_neg q]) (Ev.now _)
  | cons x r ih =>
    intro pre ipre he hp
    have hlen : a.length = ipre.length + 1 + r.length := by rw [he]; simp only [List.length_append, List.length_cons]; omega
    have q1 : (pre.length : Int) < (a.length : Int) := by omega
    have q2 : (0 : Int) ≤ (pre.length : Int) := Int.natCast_nonneg _
    have q3 : (pre.length : Int) < ((pre ++ x :: r).length : Int) := by simp only [List.length_append, List.length_cons]; omega
    have e1 : rd_T36 a (pre.length : Int) = x := by rw [he, hp]; exact rd36 ipre x r
    have e2 : rd_T36 (pre ++ x :: r) (pre.length : Int) = x := rd36 pre x r
    have hx : a[pre.length]? = some x := by rw [he, hp, List.getElem?_append_right (Nat.le_refl _), Nat.sub_self, List.getElem?_cons_zero]
    have hck := (fault_zero a L (by rw [h])).2.2.2 pre.length x hx
    have hsz := hf.2 x (List.mem_of_getElem? hx)
    have hz := ofl_size (pre.length : Int) L
    have hzl := ofl_le (pre.length : Int) L
    have hap := Apply_ev x.f1 (ofl (pre.length : Int) L) (by omega) (by have h0_ := txt_nonneg L; unfold txt at hn h0_; omega)
    rw [if_pos hck] at hap
    have hset : (pre ++ x :: r).set ((pre.length : Int)).toNat (edF L pre.length x) = (pre ++ [edF L pre.length x]) ++ r := by
      rw [Int.toNat_natCast, List.set_append_right _ _ (Nat.le_refl _), Nat.sub_self, List.set_cons_zero, List.append_assoc]
      rfl
    have hi := ih (pre ++ [edF L pre.length x]) (ipre ++ [x]) (by rw [he, app36]) (by simp [hp])
    rw [List.length_append] at hi
    refine Ev.step (f := fun k => (edit_Apply.f k x.f1 (ofl (pre.length : Int) L)).bind fun bt139 => Trial.trial_Apply.l0 k L a ((pre ++ x :: r).set ((pre.length : Int)).toNat (⟨x.f0, bt139.1⟩ : S36)) (a.length : Int) (wrap64 ((pre.length : Int) + 1))) (fun k => by rw [Trial.trial_Apply.l0, if_pos q1, if_pos q2, if_pos q1, e1, e2]; simp only [if_pos q3]) ?_
    refine Ev.bind (f := fun k t => _) hap ?_
    change Ev (fun k => Trial.trial_Apply.l0 k L a ((pre ++ x :: r).set ((pre.length : Int)).toNat (edF L pre.length x)) (a.length : Int) (wrap64 ((pre.length : Int) + 1))) _
    rw [hset, wsucc pre.length (by omega), edA]
    simp only [List.append_assoc, List.singleton_append] at hi ⊢
    exact hi
theorem Apply_ev' (a : List S36) (L : List S34) (hL : L.length ≤ 1000000) (n : Int) (hf : fits n a) (hn : n + txt L ≤ 1000000000) :
    Ev (fun k => trial_Apply.f k a L) (if okT (fault a L) then (edA L 0 a, 0, 0, 0) else ([], fault a L)) := by
  have ha : a.length ≤ 1000000 := by have := hf.1; omega
  refine Ev.congr (f := fun k => (Trial.trial_edits.f k a L).bind fun bt130 => (if (!(bt130.2.1 == 0) || (!(bt130.2.2.1 == 0) || (!(bt130.2.2.2 == 0)))) = true then (some (([] : List (S36)), bt130.2.1, bt130.2.2.1, bt130.2.2.2)) else ((api_File.f a).bind fun t135 => (Trial.trial_Apply.l0 k L a t135 (t135.length : Int) 0)))) (fun k => ?_) ?_
  · show (if a.length ≤ 1000000 ∧ L.length ≤ 1000000 then _ else none) = _
    rw [if_pos ⟨ha, hL⟩]
  refine Ev.bind (f := fun k t => _) (edits_ev a L ha hL) ?_
  by_cases c : okT (fault a L)
  · rw [if_pos c]
    have c' : fault a L = (0, 0, 0) := c
    rw [c']
    refine Ev.ite_neg (by decide) ?_
    refine Ev.bind (f := fun k t => Trial.trial_Apply.l0 k L a t (t.length : Int) 0) (a := a) ?_ ?_
    · refine Ev.congr (f := fun _ => some a) (fun k => ?_) (Ev.now _)
      unfold api_File.f
      rw [if_pos (by omega)]
    · exact Apply_l0 a L ha hL n hf hn c a [] [] rfl rfl
  · rw [if_neg c]
    refine Ev.ite_pos ?_ (Ev.now _)
    have := fault_ne a L c
    have e : ((fault a L).1 == 0) = false := beq_eq_false_iff_ne.mpr this
    show (!((fault a L).1 == 0) || _) = true
    rw [e]
    rfl
end Go.Proofs.Ytclcnglamlegiaa.Mg
