/- What is wrong with edits, and what they make of a text, as plain lists. Plain theorems; no condition but those of each theorem. -/
import Derived.Test.YtclcnglamlegiaaPMLx6
import Derived.Test.YtclcnglamlegiaaPMLx8s
namespace Go.Proofs.Ytclcnglamlegiaa.Mg
open Go Go.RowKit Go.Proofs.YtclcnglamlegiaaW.PrintWords Go.Proofs.YtclcnglamlegiaaW.PrintLast Go.Proofs.YtclcnglamlegiaaW.PrintMore Go.Proofs.Ytclcnglamlegiaa.PML
set_option linter.unusedVariables false
set_option linter.unusedSimpArgs false

theorem wrap_id {x : Int} (h0 : -9223372036854775808 ≤ x) (h1 : x ≤ 9223372036854775807) : wrap64 x = x := by
  unfold wrap64
  omega
theorem Ev.ite_pos {α : Type} {c : Prop} [Decidable c] {f g : Nat → Option α} {r : α} (h : c) (k : Ev f r) : Ev (fun n => if c then f n else g n) r := by
  simp only [if_pos h]; exact k
theorem Ev.ite_neg {α : Type} {c : Prop} [Decidable c] {f g : Nat → Option α} {r : α} (h : ¬ c) (k : Ev g r) : Ev (fun n => if c then f n else g n) r := by
  simp only [if_neg h]; exact k
theorem Ev.some_bind {α β : Type} {a : α} {f : Nat → α → Option β} {r : β} (k : Ev (fun n => f n a) r) : Ev (fun n => (some a).bind (f n)) r := k
theorem Ev.val {α : Type} {r q : α} (h : r = q) : Ev (fun _ => some r) q := h ▸ Ev.now r
theorem Ev.unique {α : Type} {g : Nat → Option α} {r q : α} (h : Ev g r) (k : Ev g q) : r = q := by
  obtain ⟨K, h⟩ := h
  obtain ⟨L, k⟩ := k
  have := (h (max K L) (Nat.le_max_left _ _)).symm.trans (k (max K L) (Nat.le_max_right _ _))
  exact Option.some.inj this
theorem rd_mid (pre : List S58) (x : S58) (r : List S58) : rd_T58 (pre ++ x :: r) (pre.length : Int) = x := by
  unfold rd_T58
  rw [List.getD_eq_getElem?_getD]
  simp
theorem len_mid (pre : List S58) (x : S58) (r : List S58) (h : (pre ++ x :: r).length ≤ 9223372036854775807) : wrap64 ((pre.length : Int) + 1) = ((pre ++ [x]).length : Int) := by
  simp only [List.length_append, List.length_cons, List.length_nil] at *
  rw [wrap_id (by omega) (by omega)]
  omega
theorem app_mid (pre : List S58) (x : S58) (r : List S58) : pre ++ x :: r = (pre ++ [x]) ++ r := by simp

/-! ### few -/
def sumSize : List S58 → Int
  | [] => 0
  | x :: r => (x.f2.size : Int) + sumSize r
theorem sumSize_nonneg (l : List S58) : 0 ≤ sumSize l := by
  induction l with
  | nil => exact Int.le_refl _
  | cons x r ih => unfold sumSize; omega
theorem sumSize_append (a b : List S58) : sumSize (a ++ b) = sumSize a + sumSize b := by
  induction a with
  | nil => simp [sumSize]
  | cons x r ih => simp only [List.cons_append, sumSize, ih]; omega
/-! ### Check -/
/-- An edit's own bounds. -/
def okE (n : Int) (x : S58) : Prop := 0 ≤ x.f0 ∧ x.f0 ≤ x.f1 ∧ x.f1 ≤ n
instance (n : Int) (x : S58) : Decidable (okE n x) := by unfold okE; infer_instance
def allOk (n : Int) : List S58 → Bool
  | [] => true
  | x :: r => decide (okE n x) && allOk n r
/-- Each edit begins behind the end of the one ahead of it. -/
def apart : List S58 → Bool
  | [] => true
  | [_] => true
  | x :: y :: r => decide (x.f1 < y.f0) && apart (y :: r)
def checkSpec (n : Int) (l : List S58) : Int := if allOk n l = true ∧ 0 ≤ n then (if apart l = true then 0 else 3) else 2
theorem holds_eq (a b c d : Int) : text_Holds.f a b c d = some (decide (a ≤ c ∧ d ≤ b)) := by
  unfold text_Holds.f
  by_cases h : c ≥ a
  · rw [if_pos h]
    have : a ≤ c := h
    simp [this]
  · rw [if_neg h]
    have : ¬ a ≤ c := h
    simp [this]
theorem Check_l1 (l : List S58) (hl : l.length ≤ 9223372036854775807) : ∀ (r pre : List S58) (x : S58), l = pre ++ x :: r →
    Ev (fun k => edit_Check.l1 k l ((pre.length : Int) + 1)) (if apart (x :: r) = true then 0 else 3) := by
  intro r
  induction r with
  | nil =>
    intro pre x he
    refine Ev.step (f := fun _ => some 0) (fun k => ?_) (Ev.val (by simp [apart]))
    simp only [edit_Check.l1]
    rw [if_neg (by rw [he]; simp)]
  | cons y r ih =>
    intro pre x he
    have hlen : l.length = pre.length + 1 + 1 + r.length := by rw [he]; simp only [List.length_append, List.length_cons]; omega
    have e1 : rd_T58 l ((pre.length : Int) + 1) = y := by
      have := rd_mid (pre ++ [x]) y r
      rw [show (pre ++ [x]) ++ y :: r = l by rw [he]; simp, show (((pre ++ [x]).length : Nat) : Int) = (pre.length : Int) + 1 by simp] at this
      exact this
    have e2 : rd_T58 l (pre.length : Int) = x := by rw [he]; exact rd_mid pre x (y :: r)
    have e3 : wrap64 ((pre.length : Int) + 1 - 1) = (pre.length : Int) := by rw [wrap_id (by omega) (by omega)]; omega
    have e4 : wrap64 ((pre.length : Int) + 1 + 1) = (((pre ++ [x]).length : Nat) : Int) + 1 := by rw [wrap_id (by omega) (by omega)]; simp
    by_cases c : y.f0 ≤ x.f1
    · refine Ev.step (f := fun _ => some 3) (fun k => ?_) (Ev.val (by simp [apart, show ¬ x.f1 < y.f0 by omega]))
      simp only [edit_Check.l1]
      rw [if_pos (by omega), if_pos (by omega), e3, if_pos (by omega), if_pos (by omega), e1, e2, if_pos c]
    · have hi := ih (pre ++ [x]) y (by rw [he]; simp)
      rw [show apart (x :: y :: r) = apart (y :: r) by simp [apart, show x.f1 < y.f0 by omega]]
      refine Ev.step (fun k => ?_) hi
      simp only [edit_Check.l1]
      rw [if_pos (by omega), if_pos (by omega), e3, if_pos (by omega), if_pos (by omega), e1, e2, if_neg c, e4]
theorem Check_l1_all (l : List S58) (hl : l.length ≤ 9223372036854775807) : Ev (fun k => edit_Check.l1 k l 1) (if apart l = true then 0 else 3) := by
  cases l with
  | nil =>
    refine Ev.step (f := fun _ => some 0) (fun k => ?_) (Ev.val (by simp [apart]))
    simp only [edit_Check.l1]
    rw [if_neg (by simp)]
  | cons x r => exact Check_l1 (x :: r) hl r [] x rfl
theorem Check_l0 (n : Int) (l : List S58) (hl : l.length ≤ 9223372036854775807) : ∀ (r pre : List S58), l = pre ++ r →
    Ev (fun k => edit_Check.l0 k n l l (l.length : Int) (pre.length : Int)) (if allOk n r = true ∧ 0 ≤ n then (if apart l = true then 0 else 3) else 2) := by
  intro r
  induction r with
  | nil =>
    intro pre he
    have hp : pre.length = l.length := by rw [he]; simp
    by_cases c : n < 0
    · refine Ev.step (f := fun _ => some 2) (fun k => ?_) (Ev.val (by rw [if_neg (by omega)]))
      simp only [edit_Check.l0]
      rw [if_neg (by omega), if_pos c]
    · rw [if_pos ⟨by simp [allOk], by omega⟩]
      refine Ev.step (fun k => ?_) (Check_l1_all l hl)
      simp only [edit_Check.l0]
      rw [if_neg (by omega), if_neg c]
  | cons x r ih =>
    intro pre he
    have hlen : l.length = pre.length + 1 + r.length := by rw [he]; simp only [List.length_append, List.length_cons]; omega
    have e2 : rd_T58 l (pre.length : Int) = x := by rw [he]; exact rd_mid pre x r
    by_cases c : 0 ≤ x.f0 ∧ x.f1 ≤ n
    · by_cases c2 : x.f1 < x.f0
      · refine Ev.step (f := fun _ => some 2) (fun k => ?_) (Ev.val (by simp [allOk, okE, show ¬ x.f0 ≤ x.f1 by omega]))
        simp only [edit_Check.l0]
        rw [if_pos (by omega), if_pos (by omega), if_pos (by omega), holds_eq, e2, Option.bind_some, if_pos (by simpa using c), if_pos c2]
      · have hi := ih (pre ++ [x]) (by rw [he]; simp)
        rw [show allOk n (x :: r) = allOk n r by simp [allOk, okE, c.1, c.2, show x.f0 ≤ x.f1 by omega]]
        refine Ev.step (fun k => ?_) hi
        simp only [edit_Check.l0]
        rw [if_pos (by omega), if_pos (by omega), if_pos (by omega), holds_eq, e2, Option.bind_some, if_pos (by simpa using c), if_neg c2, wrap_id (by omega) (by omega)]
        simp
    · refine Ev.step (f := fun _ => some 2) (fun k => ?_) (Ev.val (by
        rw [if_neg]
        rintro ⟨h, _⟩
        have h1 := (Bool.and_eq_true _ _ ▸ h : _ ∧ _).1
        have h2 : okE n x := of_decide_eq_true h1
        exact c ⟨h2.1, h2.2.2⟩))
      simp only [edit_Check.l0]
      rw [if_pos (by omega), if_pos (by omega), if_pos (by omega), holds_eq, e2, Option.bind_some, if_neg (by simpa using c)]
theorem Check_ev (n : Int) (l : List S58) (hl : l.length ≤ 9223372036854775807) : Ev (fun k => edit_Check.f k n l) (checkSpec n l) := Check_l0 n l hl l [] rfl
theorem check_zero {n : Int} {l : List S58} (h : checkSpec n l = 0) : allOk n l = true ∧ 0 ≤ n ∧ apart l = true := by
  unfold checkSpec at h
  by_cases c : allOk n l = true ∧ 0 ≤ n
  · rw [if_pos c] at h
    by_cases d : apart l = true
    · exact ⟨c.1, c.2, d⟩
    · rw [if_neg d] at h
      omega
  · rw [if_neg c] at h
    omega
theorem check_range (n : Int) (l : List S58) : 0 ≤ checkSpec n l ∧ checkSpec n l ≤ 3 := by
  unfold checkSpec
  split
  · split <;> omega
  · omega

/-- The bytes of a string. -/
def bs (s : ByteArray) : List UInt8 := s.data.toList
theorem bs_len (s : ByteArray) : (bs s).length = s.size := by unfold bs; rw [Array.length_toList]; rfl
theorem bs_inj {s t : ByteArray} (h : bs s = bs t) : s = t := by
  obtain ⟨⟨s⟩⟩ := s
  obtain ⟨⟨t⟩⟩ := t
  simp only [bs] at h
  subst h
  rfl
theorem bs_mk (l : List UInt8) : bs ⟨l.toArray⟩ = l := by simp [bs]
theorem toList_loop (s : ByteArray) (d : Nat) : ∀ (i : Nat) (r : List UInt8), s.size - i = d → ByteArray.toList.loop s i r = r.reverse ++ s.data.toList.drop i := by
  induction d with
  | zero =>
    intro i r h
    rw [ByteArray.toList.loop, if_neg (by omega), List.drop_of_length_le (by rw [Array.length_toList]; show s.size ≤ i; omega)]
    simp
  | succ d ih =>
    intro i r h
    have hi : i < s.data.toList.length := by rw [Array.length_toList]; show i < s.size; omega
    rw [ByteArray.toList.loop, if_pos (by omega), ih (i + 1) _ (by omega), List.drop_eq_getElem_cons hi]
    have : s.get! i = s.data.toList[i] := by
      show s.data[i]! = _
      rw [getElem!_pos s.data i (by rw [← Array.length_toList]; exact hi)]
      simp
    rw [this]
    simp
theorem toList_eq (s : ByteArray) : s.toList = bs s := by
  unfold ByteArray.toList
  rw [toList_loop s s.size 0 [] (by omega)]
  simp [bs]
/-- The bytes from one place up to another one. -/
def seg (S : List UInt8) (a b : Int) : List UInt8 := (S.drop a.toNat).take (b.toNat - a.toNat)
theorem bs_extract (s : ByteArray) (a b : Int) (h : b.toNat ≤ s.size) : bs (s.extract a.toNat b.toNat) = seg (bs s) a b := by
  unfold bs seg
  rw [ByteArray.data_extract, Array.toList_extract]
theorem seg_len (S : List UInt8) (a b : Int) (h : b.toNat ≤ S.length) : (seg S a b).length = b.toNat - a.toNat := by
  unfold seg
  rw [List.length_take, List.length_drop]
  omega
theorem seg_drop (S : List UInt8) (a b : Int) (h0 : 0 ≤ a) (h : a ≤ b) : seg S a b ++ S.drop b.toNat = S.drop a.toNat := by
  unfold seg
  have : S.drop b.toNat = (S.drop a.toNat).drop (b.toNat - a.toNat) := by rw [List.drop_drop]; congr 1; omega
  rw [this, List.take_append_drop]

/-- Edits that go on from a place, within n bytes. -/
def Chain (n : Int) : Int → List S58 → Prop
  | a, [] => 0 ≤ a ∧ a ≤ n
  | a, x :: r => 0 ≤ a ∧ a ≤ x.f0 ∧ x.f0 ≤ x.f1 ∧ Chain n x.f1 r
theorem Chain.le {n a : Int} {l : List S58} (h : Chain n a l) : 0 ≤ a ∧ a ≤ n := by
  induction l generalizing a with
  | nil => exact h
  | cons x r ih =>
    obtain ⟨h0, h1, h2, h3⟩ := h
    have := ih h3
    omega
theorem chain_of {n : Int} {l : List S58} (h : allOk n l = true) (ha : apart l = true) (a : Int) (h0 : 0 ≤ a) (hn : a ≤ n) (hx : ∀ x r, l = x :: r → a ≤ x.f0) : Chain n a l := by
  induction l generalizing a with
  | nil => exact ⟨h0, hn⟩
  | cons x r ih =>
    simp only [allOk, Bool.and_eq_true, decide_eq_true_eq] at h
    obtain ⟨⟨h1, h2, h3⟩, h4⟩ := h
    refine ⟨h0, hx x r rfl, h2, ih h4 ?_ x.f1 (by omega) h3 ?_⟩
    · cases r with
      | nil => rfl
      | cons y r =>
        simp only [apart, Bool.and_eq_true] at ha
        exact ha.2
    · intro y r' e
      subst e
      simp only [apart, Bool.and_eq_true, decide_eq_true_eq] at ha
      omega
theorem chain_zero {n : Int} {l : List S58} (h : checkSpec n l = 0) : Chain n 0 l := by
  obtain ⟨h1, h2, h3⟩ := check_zero h
  refine chain_of h1 h3 0 (Int.le_refl _) h2 (fun x r e => ?_)
  subst e
  simp only [allOk, Bool.and_eq_true, decide_eq_true_eq] at h1
  exact h1.1.1
/-- What edits make of what stands from a place on. -/
def app (S : List UInt8) : List S58 → Int → List UInt8
  | [], a => S.drop a.toNat
  | x :: r, a => seg S a x.f0 ++ bs x.f2 ++ app S r x.f1
theorem applyGo_chain (s : ByteArray) (l : List S58) : ∀ (a : Int) (acc : List UInt8), Chain s.size a l → (acc.length : Int) + (s.size - a) + sumSize l + s.size ≤ 140737488355328 →
    ∃ a' acc', applyGo s l a acc = some (a', acc') ∧ acc' ++ (bs s).drop a'.toNat = acc ++ app (bs s) l a ∧ 0 ≤ a' ∧ a' ≤ s.size ∧ (acc'.length : Int) + s.size ≤ 140737488355328 := by
  induction l with
  | nil =>
    intro a acc hc hb
    have := hc.le
    exact ⟨a, acc, rfl, rfl, this.1, this.2, by simp only [sumSize] at hb; omega⟩
  | cons x r ih =>
    intro a acc hc hb
    obtain ⟨h0, h1, h2, h3⟩ := hc
    have h4 := h3.le
    simp only [sumSize] at hb
    have h5 := sumSize_nonneg r
    have hlen : ((acc ++ (s.extract a.toNat x.f0.toNat).data.toList ++ x.f2.data.toList).length : Int) = acc.length + (x.f0 - a) + x.f2.size := by
      have e1 := bs_extract s a x.f0 (by omega)
      have e2 := seg_len (bs s) a x.f0 (by rw [bs_len]; omega)
      have e3 := bs_len x.f2
      unfold bs at e1 e2 e3
      rw [List.length_append, List.length_append, e1, e2, e3]
      omega
    obtain ⟨a', acc', k1, k2, k3⟩ := ih x.f1 (acc ++ (s.extract a.toNat x.f0.toNat).data.toList ++ x.f2.data.toList) h3 (by rw [hlen]; omega)
    refine ⟨a', acc', ?_, ?_, k3⟩
    · unfold applyGo
      rw [if_pos ⟨h0, h1, by omega, by omega⟩]
      exact k1
    · rw [k2]
      have e1 : (s.extract a.toNat x.f0.toNat).data.toList = seg (bs s) a x.f0 := bs_extract s a x.f0 (by omega)
      rw [e1]
      show acc ++ seg (bs s) a x.f0 ++ bs x.f2 ++ app (bs s) r x.f1 = acc ++ (seg (bs s) a x.f0 ++ bs x.f2 ++ app (bs s) r x.f1)
      simp only [List.append_assoc]
theorem applyAll_chain (s : ByteArray) (l : List S58) (h : Chain s.size 0 l) (hb : 2 * s.size + sumSize l ≤ 140737488355328) : applyAll s l = some (⟨(app (bs s) l 0).toArray⟩, 0) := by
  obtain ⟨a', acc', k1, k2, k3, k4, k5⟩ := applyGo_chain s l 0 [] h (by simp; omega)
  unfold applyAll
  rw [k1, Option.bind_some]
  dsimp only
  rw [if_pos ⟨k3, k4, by omega⟩]
  have e := bs_extract s a' (s.size : Int) (by simp)
  have e2 : seg (bs s) a' (s.size : Int) = (bs s).drop a'.toNat := by
    unfold seg
    rw [List.take_of_length_le (by rw [List.length_drop, bs_len]; omega)]
  rw [e2] at e
  rw [show ((s.size : Int)).toNat = s.size by simp] at e
  unfold bs at e
  rw [e]
  unfold bs at k2
  rw [k2]
  rfl
theorem Apply_ev (s : ByteArray) (l : List S58) (hl : l.length ≤ 9223372036854775807) (hb : 2 * s.size + sumSize l ≤ 140737488355328) :
    Ev (fun k => edit_Apply.f k s l) (if checkSpec s.size l = 0 then (⟨(app (bs s) l 0).toArray⟩, 0) else (⟨#[]⟩, checkSpec s.size l)) := by
  unfold edit_Apply.f
  refine Ev.bind (Check_ev (s.size : Int) l hl) ?_
  by_cases c : checkSpec s.size l = 0
  · refine Ev.ite_pos c ?_
    rw [if_pos c, applyAll_chain s l (chain_zero c) hb]
    exact Ev.now _
  · refine Ev.ite_neg c ?_
    rw [if_neg c]
    exact Ev.now _
theorem app_len (S : List UInt8) (l : List S58) : ∀ a : Int, Chain S.length a l → ((app S l a).length : Int) + (S.length : Int) * 0 ≤ (S.length - a) + sumSize l := by
  induction l with
  | nil =>
    intro a hc
    have := hc.le
    simp only [app, sumSize, List.length_drop]
    omega
  | cons x r ih =>
    intro a hc
    obtain ⟨h0, h1, h2, h3⟩ := hc
    have h4 := h3.le
    have := ih x.f1 h3
    simp only [app, sumSize, List.length_append, bs_len]
    rw [seg_len S a x.f0 (by omega)]
    omega

end Go.Proofs.Ytclcnglamlegiaa.Mg
