/- Edits as plain lists: what Check tells, which bytes are taken, the stretches that stay; the loops of the printed functions as functions of lists. Plain theorems of the printed functions; no condition but those of each theorem. -/
import Derived.Test.YtmgeheomokjimaaPSox3
import Derived.Test.YtmgeheomokjimaaPSox2
import Derived.Test.YtmgeheomokjimaaPSox11
import Derived.Test.YtmgeheomokjimaaFrame
namespace Go.Proofs.Ytmgeheomokjimaa.EditA
open Go.RowKit Go.Proofs.YtmgeheomokjimaaW.PrintWords Go.Proofs.YtmgeheomokjimaaW.PrintLast Go.Proofs.YtmgeheomokjimaaW.PrintMore Go.Proofs.Ytmgeheomokjimaa.PSo Go.Proofs.Ytmgeheomokjimaa.Frame
set_option linter.unusedVariables false
set_option linter.unusedSimpArgs false

theorem wrap_id {x : Int} (h0 : -9223372036854775808 ≤ x) (h1 : x ≤ 9223372036854775807) : wrap64 x = x := by
  unfold wrap64
  omega
theorem Ev.ite_pos {α : Type} {c : Prop} [Decidable c] {f g : Nat → Option α} {r : α} (h : c) (k : Ev f r) : Ev (fun n => if c then f n else g n) r := by
  simp only [if_pos h]; exact k
theorem Ev.ite_neg {α : Type} {c : Prop} [Decidable c] {f g : Nat → Option α} {r : α} (h : ¬ c) (k : Ev g r) : Ev (fun n => if c then f n else g n) r := by
  simp only [if_neg h]; exact k
theorem Ev.some_bind {α β : Type} {a : α} {f : Nat → α → Option β} {r : β} (k : Ev (fun n => f n a) r) : Ev (fun n => (some a).bind (f n)) r := k
theorem Ev.val {α : Type} {r q : α} (h : r = q) : Ev (fun _ => some r) q := h ▸ Ev.now r
theorem Ev.unique {α : Type} {g : Nat → Option α} {r q : α} (h : Ev g r) (k : Ev g q) : r = q := by
  obtain ⟨K, h⟩ := h
  obtain ⟨L, k⟩ := k
  have := (h (max K L) (Nat.le_max_left _ _)).symm.trans (k (max K L) (Nat.le_max_right _ _))
  exact Option.some.inj this
theorem rd_mid (pre : List S47) (x : S47) (r : List S47) : rd_T47 (pre ++ x :: r) (pre.length : Int) = x := by
  unfold rd_T47
  rw [List.getD_eq_getElem?_getD]
  simp
theorem len_mid (pre : List S47) (x : S47) (r : List S47) (h : (pre ++ x :: r).length ≤ 9223372036854775807) : wrap64 ((pre.length : Int) + 1) = ((pre ++ [x]).length : Int) := by
  simp only [List.length_append, List.length_cons, List.length_nil] at *
  rw [wrap_id (by omega) (by omega)]
  omega
theorem app_mid (pre : List S47) (x : S47) (r : List S47) : pre ++ x :: r = (pre ++ [x]) ++ r := by simp

/-! ### few -/
def sumSize : List S47 → Int
  | [] => 0
  | x :: r => (x.f2.size : Int) + sumSize r
theorem sumSize_nonneg (l : List S47) : 0 ≤ sumSize l := by
  induction l with
  | nil => exact Int.le_refl _
  | cons x r ih => unfold sumSize; omega
theorem sumSize_append (a b : List S47) : sumSize (a ++ b) = sumSize a + sumSize b := by
  induction a with
  | nil => simp [sumSize]
  | cons x r ih => simp only [List.cons_append, sumSize, ih]; omega
theorem few_l0 (l : List S47) (hl : l.length ≤ 9223372036854775807) : ∀ (r pre : List S47) (n : Int), l = pre ++ r → pre.length ≤ 61 → 0 ≤ n → n ≤ 5000 * pre.length → (n < 5000 → n = sumSize pre) →
    ∃ b, Ev (fun k => oriellaw02_few.l0 k l n (pre.length : Int)) b ∧ (b = true → l.length ≤ 60 ∧ sumSize l ≤ 2000) := by
  intro r
  induction r with
  | nil =>
    intro pre n he hp h0 hn hs
    simp only [List.append_nil] at he
    subst he
    by_cases h60 : (l.length : Int) ≤ 60
    · refine ⟨decide (n ≤ 2000), Ev.step (f := fun _ => some (decide (n ≤ 2000))) (fun k => ?_) (Ev.now _), fun h => ?_⟩
      · simp only [oriellaw02_few.l0]
        rw [if_neg (by omega), if_pos h60]
      · have := of_decide_eq_true h
        exact ⟨by omega, by have := hs (by omega); omega⟩
    · refine ⟨false, Ev.step (f := fun _ => some false) (fun k => ?_) (Ev.now _), fun h => by cases h⟩
      simp only [oriellaw02_few.l0]
      rw [if_neg (by omega), if_neg h60]
  | cons x r ih =>
    intro pre n he hp h0 hn hs
    by_cases h60 : pre.length ≤ 60
    · have hmn : 0 ≤ mn (x.f2.size : Int) 5000 ∧ mn (x.f2.size : Int) 5000 ≤ 5000 ∧ (mn (x.f2.size : Int) 5000 < 5000 → mn (x.f2.size : Int) 5000 = x.f2.size) := by
        unfold mn; split <;> omega
      obtain ⟨b, hb, hb2⟩ := ih (pre ++ [x]) (n + mn (x.f2.size : Int) 5000) (by rw [he]; simp) (by simp; omega) (by omega) (by simp; omega) (by
        intro h
        rw [sumSize_append, hs (by omega), hmn.2.2 (by omega)]
        simp [sumSize])
      refine ⟨b, Ev.step (fun k => ?_) hb, hb2⟩
      subst he
      simp only [oriellaw02_few.l0]
      rw [if_pos (by simp only [List.length_append, List.length_cons]; omega), if_pos (by omega), if_pos (by omega), rd_mid, len_mid pre x r hl, wrap_id (by omega) (by omega)]
    · have hlen : l.length > 60 := by rw [he]; simp only [List.length_append, List.length_cons]; omega
      refine ⟨false, Ev.step (f := fun _ => some false) (fun k => ?_) (Ev.now _), fun h => by cases h⟩
      simp only [oriellaw02_few.l0]
      rw [if_pos (by rw [he]; simp only [List.length_append, List.length_cons]; omega), if_neg (by omega), if_neg (by omega)]
theorem few_ev (l : List S47) (hl : l.length ≤ 9223372036854775807) : ∃ b, Ev (fun k => oriellaw02_few.f k l) b ∧ (b = true → l.length ≤ 60 ∧ sumSize l ≤ 2000) :=
  few_l0 l hl l [] 0 rfl (by simp) (by omega) (by simp) (fun _ => rfl)

/-! ### Check -/
/-- An edit's own bounds. -/
def okE (n : Int) (x : S47) : Prop := 0 ≤ x.f0 ∧ x.f0 ≤ x.f1 ∧ x.f1 ≤ n
instance (n : Int) (x : S47) : Decidable (okE n x) := by unfold okE; infer_instance
def allOk (n : Int) : List S47 → Bool
  | [] => true
  | x :: r => decide (okE n x) && allOk n r
/-- Each edit begins behind the end of the one ahead of it. -/
def apart : List S47 → Bool
  | [] => true
  | [_] => true
  | x :: y :: r => decide (x.f1 < y.f0) && apart (y :: r)
def checkSpec (n : Int) (l : List S47) : Int := if allOk n l = true ∧ 0 ≤ n then (if apart l = true then 0 else 3) else 2
theorem holds_eq (a b c d : Int) : text_Holds.f a b c d = some (decide (a ≤ c ∧ d ≤ b)) := by
  unfold text_Holds.f
  by_cases h : c ≥ a
  · rw [if_pos h]
    have : a ≤ c := h
    simp [this]
  · rw [if_neg h]
    have : ¬ a ≤ c := h
    simp [this]
theorem Check_l1 (l : List S47) (hl : l.length ≤ 9223372036854775807) : ∀ (r pre : List S47) (x : S47), l = pre ++ x :: r →
    Ev (fun k => edit_Check.l1 k l ((pre.length : Int) + 1)) (if apart (x :: r) = true then 0 else 3) := by
  intro r
  induction r with
  | nil =>
    intro pre x he
    refine Ev.step (f := fun _ => some 0) (fun k => ?_) (Ev.val (by simp [apart]))
    simp only [edit_Check.l1]
    rw [if_neg (by rw [he]; simp)]
  | cons y r ih =>
    intro pre x he
    have hlen : l.length = pre.length + 1 + 1 + r.length := by rw [he]; simp only [List.length_append, List.length_cons]; omega
    have e1 : rd_T47 l ((pre.length : Int) + 1) = y := by
      have := rd_mid (pre ++ [x]) y r
      rw [show (pre ++ [x]) ++ y :: r = l by rw [he]; simp, show (((pre ++ [x]).length : Nat) : Int) = (pre.length : Int) + 1 by simp] at this
      exact this
    have e2 : rd_T47 l (pre.length : Int) = x := by rw [he]; exact rd_mid pre x (y :: r)
    have e3 : wrap64 ((pre.length : Int) + 1 - 1) = (pre.length : Int) := by rw [wrap_id (by omega) (by omega)]; omega
    have e4 : wrap64 ((pre.length : Int) + 1 + 1) = (((pre ++ [x]).length : Nat) : Int) + 1 := by rw [wrap_id (by omega) (by omega)]; simp
    by_cases c : y.f0 ≤ x.f1
    · refine Ev.step (f := fun _ => some 3) (fun k => ?_) (Ev.val (by simp [apart, show ¬ x.f1 < y.f0 by omega]))
      simp only [edit_Check.l1]
      rw [if_pos (by omega), if_pos (by omega), e3, if_pos (by omega), if_pos (by omega), e1, e2, if_pos c]
    · have hi := ih (pre ++ [x]) y (by rw [he]; simp)
      rw [show apart (x :: y :: r) = apart (y :: r) by simp [apart, show x.f1 < y.f0 by omega]]
      refine Ev.step (fun k => ?_) hi
      simp only [edit_Check.l1]
      rw [if_pos (by omega), if_pos (by omega), e3, if_pos (by omega), if_pos (by omega), e1, e2, if_neg c, e4]
theorem Check_l1_all (l : List S47) (hl : l.length ≤ 9223372036854775807) : Ev (fun k => edit_Check.l1 k l 1) (if apart l = true then 0 else 3) := by
  cases l with
  | nil =>
    refine Ev.step (f := fun _ => some 0) (fun k => ?_) (Ev.val (by simp [apart]))
    simp only [edit_Check.l1]
    rw [if_neg (by simp)]
  | cons x r => exact Check_l1 (x :: r) hl r [] x rfl
theorem Check_l0 (n : Int) (l : List S47) (hl : l.length ≤ 9223372036854775807) : ∀ (r pre : List S47), l = pre ++ r →
    Ev (fun k => edit_Check.l0 k n l l (l.length : Int) (pre.length : Int)) (if allOk n r = true ∧ 0 ≤ n then (if apart l = true then 0 else 3) else 2) := by
  intro r
  induction r with
  | nil =>
    intro pre he
    have hp : pre.length = l.length := by rw [he]; simp
    by_cases c : n < 0
    · refine Ev.step (f := fun _ => some 2) (fun k => ?_) (Ev.val (by rw [if_neg (by omega)]))
      simp only [edit_Check.l0]
      rw [if_neg (by omega), if_pos c]
    · rw [if_pos ⟨by simp [allOk], by omega⟩]
      refine Ev.step (fun k => ?_) (Check_l1_all l hl)
      simp only [edit_Check.l0]
      rw [if_neg (by omega), if_neg c]
  | cons x r ih =>
    intro pre he
    have hlen : l.length = pre.length + 1 + r.length := by rw [he]; simp only [List.length_append, List.length_cons]; omega
    have e2 : rd_T47 l (pre.length : Int) = x := by rw [he]; exact rd_mid pre x r
    by_cases c : 0 ≤ x.f0 ∧ x.f1 ≤ n
    · by_cases c2 : x.f1 < x.f0
      · refine Ev.step (f := fun _ => some 2) (fun k => ?_) (Ev.val (by simp [allOk, okE, show ¬ x.f0 ≤ x.f1 by omega]))
        simp only [edit_Check.l0]
        rw [if_pos (by omega), if_pos (by omega), if_pos (by omega), holds_eq, e2, Option.bind_some, if_pos (by simpa using c), if_pos c2]
      · have hi := ih (pre ++ [x]) (by rw [he]; simp)
        rw [show allOk n (x :: r) = allOk n r by simp [allOk, okE, c.1, c.2, show x.f0 ≤ x.f1 by omega]]
        refine Ev.step (fun k => ?_) hi
        simp only [edit_Check.l0]
        rw [if_pos (by omega), if_pos (by omega), if_pos (by omega), holds_eq, e2, Option.bind_some, if_pos (by simpa using c), if_neg c2, wrap_id (by omega) (by omega)]
        simp
    · refine Ev.step (f := fun _ => some 2) (fun k => ?_) (Ev.val (by
        rw [if_neg]
        rintro ⟨h, _⟩
        have h1 := (Bool.and_eq_true _ _ ▸ h : _ ∧ _).1
        have h2 : okE n x := of_decide_eq_true h1
        exact c ⟨h2.1, h2.2.2⟩))
      simp only [edit_Check.l0]
      rw [if_pos (by omega), if_pos (by omega), if_pos (by omega), holds_eq, e2, Option.bind_some, if_neg (by simpa using c)]
theorem Check_ev (n : Int) (l : List S47) (hl : l.length ≤ 9223372036854775807) : Ev (fun k => edit_Check.f k n l) (checkSpec n l) := Check_l0 n l hl l [] rfl
theorem RCheck_l1 (l : List S47) (hl : l.length ≤ 9223372036854775807) : ∀ (r pre : List S47) (x : S47), l = pre ++ x :: r →
    Ev (fun k => orielref02_Check.l1 k l ((pre.length : Int) + 1)) (if apart (x :: r) = true then 0 else 3) := by
  intro r
  induction r with
  | nil =>
    intro pre x he
    refine Ev.step (f := fun _ => some 0) (fun k => ?_) (Ev.val (by simp [apart]))
    simp only [orielref02_Check.l1]
    rw [if_neg (by rw [he]; simp)]
  | cons y r ih =>
    intro pre x he
    have hlen : l.length = pre.length + 1 + 1 + r.length := by rw [he]; simp only [List.length_append, List.length_cons]; omega
    have e1 : rd_T47 l ((pre.length : Int) + 1) = y := by
      have := rd_mid (pre ++ [x]) y r
      rw [show (pre ++ [x]) ++ y :: r = l by rw [he]; simp, show (((pre ++ [x]).length : Nat) : Int) = (pre.length : Int) + 1 by simp] at this
      exact this
    have e2 : rd_T47 l (pre.length : Int) = x := by rw [he]; exact rd_mid pre x (y :: r)
    have e3 : wrap64 ((pre.length : Int) + 1 - 1) = (pre.length : Int) := by rw [wrap_id (by omega) (by omega)]; omega
    have e4 : wrap64 ((pre.length : Int) + 1 + 1) = (((pre ++ [x]).length : Nat) : Int) + 1 := by rw [wrap_id (by omega) (by omega)]; simp
    by_cases c : y.f0 ≤ x.f1
    · refine Ev.step (f := fun _ => some 3) (fun k => ?_) (Ev.val (by simp [apart, show ¬ x.f1 < y.f0 by omega]))
      simp only [orielref02_Check.l1]
      rw [if_pos (by omega), if_pos (by omega), e3, if_pos (by omega), if_pos (by omega), e1, e2, if_pos c]
    · have hi := ih (pre ++ [x]) y (by rw [he]; simp)
      rw [show apart (x :: y :: r) = apart (y :: r) by simp [apart, show x.f1 < y.f0 by omega]]
      refine Ev.step (fun k => ?_) hi
      simp only [orielref02_Check.l1]
      rw [if_pos (by omega), if_pos (by omega), e3, if_pos (by omega), if_pos (by omega), e1, e2, if_neg c, e4]
theorem RCheck_l1_all (l : List S47) (hl : l.length ≤ 9223372036854775807) : Ev (fun k => orielref02_Check.l1 k l 1) (if apart l = true then 0 else 3) := by
  cases l with
  | nil =>
    refine Ev.step (f := fun _ => some 0) (fun k => ?_) (Ev.val (by simp [apart]))
    simp only [orielref02_Check.l1]
    rw [if_neg (by simp)]
  | cons x r => exact RCheck_l1 (x :: r) hl r [] x rfl
theorem RCheck_l0 (n : Int) (hn : 0 ≤ n) (l : List S47) (hl : l.length ≤ 9223372036854775807) : ∀ (r pre : List S47), l = pre ++ r →
    Ev (fun k => orielref02_Check.l0 k n l (pre.length : Int)) (if allOk n r = true ∧ 0 ≤ n then (if apart l = true then 0 else 3) else 2) := by
  intro r
  induction r with
  | nil =>
    intro pre he
    have hp : pre.length = l.length := by rw [he]; simp
    rw [if_pos ⟨by simp [allOk], by omega⟩]
    refine Ev.step (fun k => ?_) (RCheck_l1_all l hl)
    simp only [orielref02_Check.l0]
    rw [if_neg (by omega)]
  | cons x r ih =>
    intro pre he
    have hlen : l.length = pre.length + 1 + r.length := by rw [he]; simp only [List.length_append, List.length_cons]; omega
    have e2 : rd_T47 l (pre.length : Int) = x := by rw [he]; exact rd_mid pre x r
    by_cases c : okE n x
    · have hi := ih (pre ++ [x]) (by rw [he]; simp)
      rw [show allOk n (x :: r) = allOk n r by simp [allOk, c]]
      unfold okE at c
      refine Ev.step (fun k => ?_) hi
      simp only [orielref02_Check.l0]
      rw [if_pos (by omega), if_pos (by omega), e2, if_neg (by omega), if_neg (by omega), if_neg (by omega), wrap_id (by omega) (by omega)]
      simp
    · refine Ev.step (f := fun _ => some 2) (fun k => ?_) (Ev.val (by simp [allOk, c]))
      unfold okE at c
      simp only [orielref02_Check.l0]
      rw [if_pos (by omega), if_pos (by omega), e2]
      by_cases c1 : x.f0 < 0
      · rw [if_pos c1]
      · rw [if_neg c1]
        by_cases c2 : x.f1 < x.f0
        · rw [if_pos c2]
        · rw [if_neg c2, if_pos (by omega)]
theorem RCheck_ev (n : Int) (l : List S47) (hl : l.length ≤ 9223372036854775807) : Ev (fun k => orielref02_Check.f k n l) (checkSpec n l) := by
  unfold orielref02_Check.f
  by_cases c : n < 0
  · refine Ev.ite_pos c (Ev.val ?_)
    unfold checkSpec
    rw [if_neg (by omega)]
  · exact Ev.ite_neg c (RCheck_l0 n (by omega) l hl l [] rfl)
theorem check_zero {n : Int} {l : List S47} (h : checkSpec n l = 0) : allOk n l = true ∧ 0 ≤ n ∧ apart l = true := by
  unfold checkSpec at h
  by_cases c : allOk n l = true ∧ 0 ≤ n
  · rw [if_pos c] at h
    by_cases d : apart l = true
    · exact ⟨c.1, c.2, d⟩
    · rw [if_neg d] at h
      omega
  · rw [if_neg c] at h
    omega
theorem check_range (n : Int) (l : List S47) : 0 ≤ checkSpec n l ∧ checkSpec n l ≤ 3 := by
  unfold checkSpec
  split
  · split <;> omega
  · omega
end Go.Proofs.Ytmgeheomokjimaa.EditA
