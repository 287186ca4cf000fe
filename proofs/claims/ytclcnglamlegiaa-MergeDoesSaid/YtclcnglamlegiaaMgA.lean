/- Several texts of this session's, one behind the other: what each proves stands ahead of it. -/
import Derived.Test.YtclcnglamlegiaaPMDx7
import Derived.Test.YtclcnglamlegiaaPMDx9s
import Derived.Test.YtclcnglamlegiaaPMDx9
import Derived.Test.YtclcnglamlegiaaPMDx14
import Derived.Test.YtclcnglamlegiaaPMDx0
import Derived.Test.YtclcnglamlegiaaPMDx15
import Derived.Test.YtclcnglamlegiaaPMDx16
import Derived.KernelRfl
import Derived.Test.YtclcnglamlegiaaPMDx18
import Derived.Test.YtclcnglamlegiaaPMDx20
import Derived.Test.YtclcnglamlegiaaPMDx21
import Derived.Test.YtclcnglamlegiaaPMDx17
import Derived.Test.YtclcnglamlegiaaPMDx19
import Derived.Test.YtclcnglamlegiaaPMDx22
import Derived.Test.YtclcnglamlegiaaPMDx23
import Derived.Test.YtclcnglamlegiaaPMDx24
import Derived.Test.YtclcnglamlegiaaPMDx25
import Derived.Test.YtclcnglamlegiaaPMDx26
namespace Go.Proofs.Ytclcnglamlegiaa.Mg
open Go Go.RowKit Go.Proofs.YtclcnglamlegiaaW.PrintWords Go.Proofs.YtclcnglamlegiaaW.PrintLast Go.Proofs.YtclcnglamlegiaaW.PrintMore Go.Proofs.Ytclcnglamlegiaa.PMD
set_option linter.unusedVariables false
set_option linter.unusedSimpArgs false
theorem wrap_id {x : Int} (h0 : -9223372036854775808 ≤ x) (h1 : x ≤ 9223372036854775807) : wrap64 x = x := by
 unfold wrap64
 omega
theorem Ev.ite_pos {α : Type} {c : Prop} [Decidable c] {f g : Nat → Option α} {r : α} (h : c) (k : Ev f r) : Ev (fun n => if c then f n else g n) r := by
 simp only [if_pos h]; exact k
theorem Ev.ite_neg {α : Type} {c : Prop} [Decidable c] {f g : Nat → Option α} {r : α} (h : ¬ c) (k : Ev g r) : Ev (fun n => if c then f n else g n) r := by
 simp only [if_neg h]; exact k
theorem Ev.val {α : Type} {r q : α} (h : r = q) : Ev (fun _ => some r) q := h ▸ Ev.now r
theorem rd_mid (pre : List S58) (x : S58) (r : List S58) : rd_T58 (pre ++ x :: r) (pre.length : Int) = x := by
 unfold rd_T58
 rw [List.getD_eq_getElem?_getD]
 simp
/-! ### few -/
def sumSize : List S58 → Int
 | [] => 0
 | x :: r => (x.f2.size : Int) + sumSize r
theorem sumSize_nonneg (l : List S58) : 0 ≤ sumSize l := by
 induction l with
 | nil => exact Int.le_refl _
 | cons x r ih => unfold sumSize; omega
/-! ### Check -/
def okE (n : Int) (x : S58) : Prop := 0 ≤ x.f0 ∧ x.f0 ≤ x.f1 ∧ x.f1 ≤ n
instance (n : Int) (x : S58) : Decidable (okE n x) := by unfold okE; infer_instance
def allOk (n : Int) : List S58 → Bool
 | [] => true
 | x :: r => decide (okE n x) && allOk n r
def apart : List S58 → Bool
 | [] => true
 | [_] => true
 | x :: y :: r => decide (x.f1 < y.f0) && apart (y :: r)
def checkSpec (n : Int) (l : List S58) : Int := if allOk n l = true ∧ 0 ≤ n then (if apart l = true then 0 else 3) else 2
theorem holds_eq (a b c d : Int) : text_Holds.f a b c d = some (decide (a ≤ c ∧ d ≤ b)) := by
 unfold text_Holds.f
 by_cases h : c ≥ a
 ·rw [if_pos h]
  have : a ≤ c := h
  simp [this]
 ·rw [if_neg h]
  have : ¬ a ≤ c := h
  simp [this]
theorem Check_l1 (l : List S58) (hl : l.length ≤ 9223372036854775807) : ∀ (r pre : List S58) (x : S58), l = pre ++ x :: r →
  Ev (fun k => edit_Check.l1 k l ((pre.length : Int) + 1)) (if apart (x :: r) = true then 0 else 3) := by
 intro r
 induction r with
 | nil =>
  intro pre x he
  refine Ev.step (f := fun _ => some 0) (fun k => ?_) (Ev.val (by simp [apart]))
  simp only [edit_Check.l1]
  rw [if_neg (by rw [he]; simp)]
 | cons y r ih =>
  intro pre x he
  have hlen : l.length = pre.length + 1 + 1 + r.length := by rw [he]; simp only [List.length_append, List.length_cons]; omega
  have e1 : rd_T58 l ((pre.length : Int) + 1) = y := by
   have := rd_mid (pre ++ [x]) y r
   rw [show (pre ++ [x]) ++ y :: r = l by rw [he]; simp, show (((pre ++ [x]).length : Nat) : Int) = (pre.length : Int) + 1 by simp] at this
   exact this
  have e2 : rd_T58 l (pre.length : Int) = x := by rw [he]; exact rd_mid pre x (y :: r)
  have e3 : wrap64 ((pre.length : Int) + 1 - 1) = (pre.length : Int) := by rw [wrap_id (by omega) (by omega)]; omega
  have e4 : wrap64 ((pre.length : Int) + 1 + 1) = (((pre ++ [x]).length : Nat) : Int) + 1 := by rw [wrap_id (by omega) (by omega)]; simp
  by_cases c : y.f0 ≤ x.f1
  ·refine Ev.step (f := fun _ => some 3) (fun k => ?_) (Ev.val (by simp [apart, show ¬ x.f1 < y.f0 by omega]))
   simp only [edit_Check.l1]
   rw [if_pos (by omega), if_pos (by omega), e3, if_pos (by omega), if_pos (by omega), e1, e2, if_pos c]
  ·have hi := ih (pre ++ [x]) y (by rw [he]; simp)
   rw [show apart (x :: y :: r) = apart (y :: r) by simp [apart, show x.f1 < y.f0 by omega]]
   refine Ev.step (fun k => ?_) hi
   simp only [edit_Check.l1]
   rw [if_pos (by omega), if_pos (by omega), e3, if_pos (by omega), if_pos (by omega), e1, e2, if_neg c, e4]
theorem Check_l1_all (l : List S58) (hl : l.length ≤ 9223372036854775807) : Ev (fun k => edit_Check.l1 k l 1) (if apart l = true then 0 else 3) := by
 cases l with
 | nil =>
  refine Ev.step (f := fun _ => some 0) (fun k => ?_) (Ev.val (by simp [apart]))
  simp only [edit_Check.l1]
  rw [if_neg (by simp)]
 | cons x r => exact Check_l1 (x :: r) hl r [] x rfl
theorem Check_l0 (n : Int) (l : List S58) (hl : l.length ≤ 9223372036854775807) : ∀ (r pre : List S58), l = pre ++ r →
  Ev (fun k => edit_Check.l0 k n l l (l.length : Int) (pre.length : Int)) (if allOk n r = true ∧ 0 ≤ n then (if apart l = true then 0 else 3) else 2) := by
 intro r
 induction r with
 | nil =>
  intro pre he
  have hp : pre.length = l.length := by rw [he]; simp
  by_cases c : n < 0
  ·refine Ev.step (f := fun _ => some 2) (fun k => ?_) (Ev.val (by rw [if_neg (by omega)]))
   simp only [edit_Check.l0]
   rw [if_neg (by omega), if_pos c]
  ·rw [if_pos ⟨by simp [allOk], by omega⟩]
   refine Ev.step (fun k => ?_) (Check_l1_all l hl)
   simp only [edit_Check.l0]
   rw [if_neg (by omega), if_neg c]
 | cons x r ih =>
  intro pre he
  have hlen : l.length = pre.length + 1 + r.length := by rw [he]; simp only [List.length_append, List.length_cons]; omega
  have e2 : rd_T58 l (pre.length : Int) = x := by rw [he]; exact rd_mid pre x r
  by_cases c : 0 ≤ x.f0 ∧ x.f1 ≤ n
  ·by_cases c2 : x.f1 < x.f0
   ·refine Ev.step (f := fun _ => some 2) (fun k => ?_) (Ev.val (by simp [allOk, okE, show ¬ x.f0 ≤ x.f1 by omega]))
    simp only [edit_Check.l0]
    rw [if_pos (by omega), if_pos (by omega), if_pos (by omega), holds_eq, e2, Option.bind_some, if_pos (by simpa using c), if_pos c2]
   ·have hi := ih (pre ++ [x]) (by rw [he]; simp)
    rw [show allOk n (x :: r) = allOk n r by simp [allOk, okE, c.1, c.2, show x.f0 ≤ x.f1 by omega]]
    refine Ev.step (fun k => ?_) hi
    simp only [edit_Check.l0]
    rw [if_pos (by omega), if_pos (by omega), if_pos (by omega), holds_eq, e2, Option.bind_some, if_pos (by simpa using c), if_neg c2, wrap_id (by omega) (by omega)]
    simp
  ·refine Ev.step (f := fun _ => some 2) (fun k => ?_) (Ev.val (by
    rw [if_neg]
    rintro ⟨h, _⟩
    have h1 := (Bool.and_eq_true _ _ ▸ h : _ ∧ _).1
    have h2 : okE n x := of_decide_eq_true h1
    exact c ⟨h2.1, h2.2.2⟩))
   simp only [edit_Check.l0]
   rw [if_pos (by omega), if_pos (by omega), if_pos (by omega), holds_eq, e2, Option.bind_some, if_neg (by simpa using c)]
theorem Check_ev (n : Int) (l : List S58) (hl : l.length ≤ 9223372036854775807) : Ev (fun k => edit_Check.f k n l) (checkSpec n l) := Check_l0 n l hl l [] rfl
theorem check_zero {n : Int} {l : List S58} (h : checkSpec n l = 0) : allOk n l = true ∧ 0 ≤ n ∧ apart l = true := by
 unfold checkSpec at h
 by_cases c : allOk n l = true ∧ 0 ≤ n
 ·rw [if_pos c] at h
  by_cases d : apart l = true
  ·exact ⟨c.1, c.2, d⟩
  ·rw [if_neg d] at h
   omega
 ·rw [if_neg c] at h
  omega
def bs (s : ByteArray) : List UInt8 := s.data.toList
theorem bs_len (s : ByteArray) : (bs s).length = s.size := by unfold bs; rw [Array.length_toList]; rfl
theorem bs_inj {s t : ByteArray} (h : bs s = bs t) : s = t := by
 obtain ⟨⟨s⟩⟩ := s
 obtain ⟨⟨t⟩⟩ := t
 simp only [bs] at h
 subst h
 rfl
theorem bs_mk (l : List UInt8) : bs ⟨l.toArray⟩ = l := by simp [bs]
theorem toList_loop (s : ByteArray) (d : Nat) : ∀ (i : Nat) (r : List UInt8), s.size - i = d → ByteArray.toList.loop s i r = r.reverse ++ s.data.toList.drop i := by
 induction d with
 | zero =>
  intro i r h
  rw [ByteArray.toList.loop, if_neg (by omega), List.drop_of_length_le (by rw [Array.length_toList]; show s.size ≤ i; omega)]
  simp
 | succ d ih =>
  intro i r h
  have hi : i < s.data.toList.length := by rw [Array.length_toList]; show i < s.size; omega
  rw [ByteArray.toList.loop, if_pos (by omega), ih (i + 1) _ (by omega), List.drop_eq_getElem_cons hi]
  have : s.get! i = s.data.toList[i] := by
   show s.data[i]! = _
   rw [getElem!_pos s.data i (by rw [← Array.length_toList]; exact hi)]
   simp
  rw [this]
  simp
theorem toList_eq (s : ByteArray) : s.toList = bs s := by
 unfold ByteArray.toList
 rw [toList_loop s s.size 0 [] (by omega)]
 simp [bs]
def seg (S : List UInt8) (a b : Int) : List UInt8 := (S.drop a.toNat).take (b.toNat - a.toNat)
theorem bs_extract (s : ByteArray) (a b : Int) (h : b.toNat ≤ s.size) : bs (s.extract a.toNat b.toNat) = seg (bs s) a b := by
 unfold bs seg
 rw [ByteArray.data_extract, Array.toList_extract]
theorem seg_len (S : List UInt8) (a b : Int) (h : b.toNat ≤ S.length) : (seg S a b).length = b.toNat - a.toNat := by
 unfold seg
 rw [List.length_take, List.length_drop]
 omega
theorem seg_drop (S : List UInt8) (a b : Int) (h0 : 0 ≤ a) (h : a ≤ b) : seg S a b ++ S.drop b.toNat = S.drop a.toNat := by
 unfold seg
 have : S.drop b.toNat = (S.drop a.toNat).drop (b.toNat - a.toNat) := by rw [List.drop_drop]; congr 1; omega
 rw [this, List.take_append_drop]
def Chain (n : Int) : Int → List S58 → Prop
 | a, [] => 0 ≤ a ∧ a ≤ n
 | a, x :: r => 0 ≤ a ∧ a ≤ x.f0 ∧ x.f0 ≤ x.f1 ∧ Chain n x.f1 r
theorem Chain.le {n a : Int} {l : List S58} (h : Chain n a l) : 0 ≤ a ∧ a ≤ n := by
 induction l generalizing a with
 | nil => exact h
 | cons x r ih =>
  obtain ⟨h0, h1, h2, h3⟩ := h
  have := ih h3
  omega
theorem chain_of {n : Int} {l : List S58} (h : allOk n l = true) (ha : apart l = true) (a : Int) (h0 : 0 ≤ a) (hn : a ≤ n) (hx : ∀ x r, l = x :: r → a ≤ x.f0) : Chain n a l := by
 induction l generalizing a with
 | nil => exact ⟨h0, hn⟩
 | cons x r ih =>
  simp only [allOk, Bool.and_eq_true, decide_eq_true_eq] at h
  obtain ⟨⟨h1, h2, h3⟩, h4⟩ := h
  refine ⟨h0, hx x r rfl, h2, ih h4 ?_ x.f1 (by omega) h3 ?_⟩
  ·cases r with
   | nil => rfl
   | cons y r =>
    simp only [apart, Bool.and_eq_true] at ha
    exact ha.2
  ·intro y r' e
   subst e
   simp only [apart, Bool.and_eq_true, decide_eq_true_eq] at ha
   omega
theorem chain_zero {n : Int} {l : List S58} (h : checkSpec n l = 0) : Chain n 0 l := by
 obtain ⟨h1, h2, h3⟩ := check_zero h
 refine chain_of h1 h3 0 (Int.le_refl _) h2 (fun x r e => ?_)
 subst e
 simp only [allOk, Bool.and_eq_true, decide_eq_true_eq] at h1
 exact h1.1.1
def app (S : List UInt8) : List S58 → Int → List UInt8
 | [], a => S.drop a.toNat
 | x :: r, a => seg S a x.f0 ++ bs x.f2 ++ app S r x.f1
theorem applyGo_chain (s : ByteArray) (l : List S58) : ∀ (a : Int) (acc : List UInt8), Chain s.size a l → (acc.length : Int) + (s.size - a) + sumSize l + s.size ≤ 140737488355328 →
  ∃ a' acc', applyGo s l a acc = some (a', acc') ∧ acc' ++ (bs s).drop a'.toNat = acc ++ app (bs s) l a ∧ 0 ≤ a' ∧ a' ≤ s.size ∧ (acc'.length : Int) + s.size ≤ 140737488355328 := by
 induction l with
 | nil =>
  intro a acc hc hb
  have := hc.le
  exact ⟨a, acc, rfl, rfl, this.1, this.2, by simp only [sumSize] at hb; omega⟩
 | cons x r ih =>
  intro a acc hc hb
  obtain ⟨h0, h1, h2, h3⟩ := hc
  have h4 := h3.le
  simp only [sumSize] at hb
  have h5 := sumSize_nonneg r
  have hlen : ((acc ++ (s.extract a.toNat x.f0.toNat).data.toList ++ x.f2.data.toList).length : Int) = acc.length + (x.f0 - a) + x.f2.size := by
   have e1 := bs_extract s a x.f0 (by omega)
   have e2 := seg_len (bs s) a x.f0 (by rw [bs_len]; omega)
   have e3 := bs_len x.f2
   unfold bs at e1 e2 e3
   rw [List.length_append, List.length_append, e1, e2, e3]
   omega
  obtain ⟨a', acc', k1, k2, k3⟩ := ih x.f1 (acc ++ (s.extract a.toNat x.f0.toNat).data.toList ++ x.f2.data.toList) h3 (by rw [hlen]; omega)
  refine ⟨a', acc', ?_, ?_, k3⟩
  ·unfold applyGo
   rw [if_pos ⟨h0, h1, by omega, by omega⟩]
   exact k1
  ·rw [k2]
   have e1 : (s.extract a.toNat x.f0.toNat).data.toList = seg (bs s) a x.f0 := bs_extract s a x.f0 (by omega)
   rw [e1]
   show acc ++ seg (bs s) a x.f0 ++ bs x.f2 ++ app (bs s) r x.f1 = acc ++ (seg (bs s) a x.f0 ++ bs x.f2 ++ app (bs s) r x.f1)
   simp only [List.append_assoc]
theorem applyAll_chain (s : ByteArray) (l : List S58) (h : Chain s.size 0 l) (hb : 2 * s.size + sumSize l ≤ 140737488355328) : applyAll s l = some (⟨(app (bs s) l 0).toArray⟩, 0) := by
 obtain ⟨a', acc', k1, k2, k3, k4, k5⟩ := applyGo_chain s l 0 [] h (by simp; omega)
 unfold applyAll
 rw [k1, Option.bind_some]
 dsimp only
 rw [if_pos ⟨k3, k4, by omega⟩]
 have e := bs_extract s a' (s.size : Int) (by simp)
 have e2 : seg (bs s) a' (s.size : Int) = (bs s).drop a'.toNat := by
  unfold seg
  rw [List.take_of_length_le (by rw [List.length_drop, bs_len]; omega)]
 rw [e2] at e
 rw [show ((s.size : Int)).toNat = s.size by simp] at e
 unfold bs at e
 rw [e]
 unfold bs at k2
 rw [k2]
 rfl
theorem Apply_ev (s : ByteArray) (l : List S58) (hl : l.length ≤ 9223372036854775807) (hb : 2 * s.size + sumSize l ≤ 140737488355328) :
  Ev (fun k => edit_Apply.f k s l) (if checkSpec s.size l = 0 then (⟨(app (bs s) l 0).toArray⟩, 0) else (⟨#[]⟩, checkSpec s.size l)) := by
 unfold edit_Apply.f
 refine Ev.bind (Check_ev (s.size : Int) l hl) ?_
 by_cases c : checkSpec s.size l = 0
 ·refine Ev.ite_pos c ?_
  rw [if_pos c, applyAll_chain s l (chain_zero c) hb]
  exact Ev.now _
 ·refine Ev.ite_neg c ?_
  rw [if_neg c]
  exact Ev.now _
theorem app_len (S : List UInt8) (l : List S58) : ∀ a : Int, Chain S.length a l → ((app S l a).length : Int) + (S.length : Int) * 0 ≤ (S.length - a) + sumSize l := by
 induction l with
 | nil =>
  intro a hc
  have := hc.le
  simp only [app, sumSize, List.length_drop]
  omega
 | cons x r ih =>
  intro a hc
  obtain ⟨h0, h1, h2, h3⟩ := hc
  have h4 := h3.le
  have := ih x.f1 h3
  simp only [app, sumSize, List.length_append, bs_len]
  rw [seg_len S a x.f0 (by omega)]
  omega
end Go.Proofs.Ytclcnglamlegiaa.Mg
namespace Go.Proofs.Ytclcnglamlegiaa.Mg
open Go Go.RowKit Go.Proofs.YtclcnglamlegiaaW.PrintWords Go.Proofs.YtclcnglamlegiaaW.PrintLast Go.Proofs.YtclcnglamlegiaaW.PrintMore Go.Proofs.Ytclcnglamlegiaa.PMD
open Go.Proofs.Ytclcnglamlegiaa.Trial (ofl eof)
set_option linter.unusedVariables false
set_option linter.unusedSimpArgs false
theorem wid {x : Int} (h0 : -9223372036854775808 ≤ x) (h1 : x ≤ 9223372036854775807) : wrap64 x = x := wrap_id h0 h1
theorem wsucc (n : Nat) (h : n < 1000000000000) : wrap64 ((n : Int) + 1) = ((n + 1 : Nat) : Int) := by
 rw [wrap_id (by omega) (by omega)]
 omega
theorem rd34 (pre : List S34) (x : S34) (r : List S34) : rd_T34 (pre ++ x :: r) (pre.length : Int) = x := by
 unfold rd_T34
 rw [List.getD_eq_getElem?_getD]
 simp
theorem rd36 (pre : List S36) (x : S36) (r : List S36) : rd_T36 (pre ++ x :: r) (pre.length : Int) = x := by
 unfold rd_T36
 rw [List.getD_eq_getElem?_getD]
 simp
theorem app34 (pre : List S34) (x : S34) (r : List S34) : pre ++ x :: r = (pre ++ [x]) ++ r := by simp
theorem app36 (pre : List S36) (x : S36) (r : List S36) : pre ++ x :: r = (pre ++ [x]) ++ r := by simp
/-! ### what is wrong with changes -/
def inF (n : Nat) (x : S34) : Prop := 0 ≤ x.f0 ∧ x.f0 < (n : Int)
def badF (n : Nat) : List S34 → Option S34
 | [] => none
 | x :: r => if x.f0 < 0 then some x else if x.f0 ≥ (n : Int) then some x else badF n r
def badO : List S34 → Option S34
 | [] => none
 | [_] => none
 | x :: y :: r => if y.f0 < x.f0 then some y else badO (y :: r)
def chkS (L : List S34) : Nat → List S36 → Int × Int × Int
 | _, [] => (0, 0, 0)
 | i, x :: r => if checkSpec (x.f1.size : Int) (ofl (i : Int) L) = 0 then chkS L (i + 1) r else (checkSpec (x.f1.size : Int) (ofl (i : Int) L), (i : Int), 0)
def ordS (a : List S36) (L : List S34) : Int × Int × Int :=
 match badO L with
 | some c => (3, c.f0, c.f1)
 | none => chkS L 0 a
def fault (a : List S36) (L : List S34) : Int × Int × Int :=
 match badF a.length L with
 | some c => (2, c.f0, c.f1)
 | none => ordS a L
theorem badF_none {n : Nat} : ∀ {L : List S34}, badF n L = none → ∀ x ∈ L, inF n x
 | [], _, _, h => by cases h
 | y :: r, h, x, hx => by
  unfold badF at h
  by_cases c : y.f0 < 0
  ·rw [if_pos c] at h; cases h
  ·rw [if_neg c] at h
   by_cases d : y.f0 ≥ (n : Int)
   ·rw [if_pos d] at h; cases h
   ·rw [if_neg d] at h
    rcases List.mem_cons.mp hx with rfl | hx
    ·exact ⟨by omega, by omega⟩
    ·exact badF_none h x hx
theorem ofl_le (i : Int) (L : List S34) : (ofl i L).length ≤ L.length := Trial.ofl_len i L
theorem edits_l2 (a : List S36) (L : List S34) (ha : a.length ≤ 1000000) (hL : L.length ≤ 1000000) : ∀ (r pre : List S36), a = pre ++ r → Ev (fun k => Trial.trial_edits.l2 k L a (a.length : Int) (pre.length : Int)) (0, chkS L pre.length r) := by
 intro r
 induction r with
 | nil =>
  intro pre he
  have q : ¬ ((pre.length : Int) < (a.length : Int)) := by rw [he]; simp
  exact Ev.step (f := fun _ => some (0, 0, 0, 0)) (fun k => by rw [Trial.trial_edits.l2, if_neg q]) (Ev.now _)
 | cons x r ih =>
  intro pre he
  have hlen : a.length = pre.length + 1 + r.length := by rw [he]; simp only [List.length_append, List.length_cons]; omega
  have q1 : (pre.length : Int) < (a.length : Int) := by omega
  have q2 : (0 : Int) ≤ (pre.length : Int) := Int.natCast_nonneg _
  have e : rd_T36 a (pre.length : Int) = x := by rw [he]; exact rd36 pre x r
  have hi := ih (pre ++ [x]) (by rw [he, app36])
  rw [List.length_append] at hi
  refine Ev.step (f := fun k => (edit_Check.f k (x.f1.size : Int) (ofl (pre.length : Int) L)).bind fun t128 => if t128 = 0 then (Trial.trial_edits.l2 k L a (a.length : Int) (wrap64 ((pre.length : Int) + 1))) else (some (0, t128, (pre.length : Int), 0))) (fun k => by rw [Trial.trial_edits.l2, if_pos q1, if_pos q2, if_pos q1, e]) ?_
  have hc := Check_ev (x.f1.size : Int) (ofl (pre.length : Int) L) (by have := ofl_le (pre.length : Int) L; omega)
  refine Ev.bind (f := fun k t => _) hc ?_
  unfold chkS
  by_cases c : checkSpec (x.f1.size : Int) (ofl (pre.length : Int) L) = 0
  ·rw [if_pos c]
   refine Ev.ite_pos c ?_
   rw [wsucc pre.length (by omega)]
   exact hi
  ·rw [if_neg c]
   exact Ev.ite_neg c (Ev.now _)
theorem edits_l1 (a : List S36) (L : List S34) (ha : a.length ≤ 1000000) (hL : L.length ≤ 1000000) (R : Int × Int × Int × Int) (H : Ev (fun k => Trial.trial_edits.l2 k L a (a.length : Int) 0) R) : ∀ (r pre : List S34) (x : S34), L = pre ++ x :: r →
  Ev (fun k => Trial.trial_edits.l1 k a L L L (L.length : Int) ((pre.length : Int) + 1)) (match badO (x :: r) with | some c => (0, 3, c.f0, c.f1) | none => R) := by
 intro r
 induction r with
 | nil =>
  intro pre x he
  have q : ¬ ((pre.length : Int) + 1 < (L.length : Int)) := by rw [he]; simp
  refine Ev.step (fun k => ?_) H
  rw [Trial.trial_edits.l1, if_neg q]
 | cons y r ih =>
  intro pre x he
  have hlen : L.length = pre.length + 2 + r.length := by rw [he]; simp only [List.length_append, List.length_cons]; omega
  have q1 : (pre.length : Int) + 1 < (L.length : Int) := by omega
  have q2 : (0 : Int) ≤ (pre.length : Int) + 1 := by omega
  have q3 : (pre.length : Int) + 1 > 0 := by omega
  have w1 : wrap64 ((pre.length : Int) + 1 - 1) = (pre.length : Int) := by rw [wid (by omega) (by omega)]; omega
  have q4 : (0 : Int) ≤ (pre.length : Int) := Int.natCast_nonneg _
  have q5 : (pre.length : Int) < (L.length : Int) := by omega
  have e1 : rd_T34 L (pre.length : Int) = x := by rw [he]; exact rd34 pre x (y :: r)
  have e2 : rd_T34 L ((pre.length : Int) + 1) = y := by
   have := rd34 (pre ++ [x]) y r
   rw [List.append_assoc] at this
   rw [he]
   have e : ((pre ++ [x]).length : Int) = (pre.length : Int) + 1 := by simp
   rw [e] at this
   exact this
  have q6 : ([] : List S58).length < 4398046511104 := by decide
  have hi := ih (pre ++ [x]) y (by rw [he]; simp)
  have e3 : (((pre ++ [x]).length : Int)) + 1 = (pre.length : Int) + 1 + 1 := by simp
  rw [e3] at hi
  unfold badO
  by_cases c : y.f0 < x.f0
  ·rw [if_pos c]
   refine Ev.step (f := fun _ => some (0, 3, y.f0, y.f1)) (fun k => ?_) (Ev.now _)
   rw [Trial.trial_edits.l1, w1, if_pos q1, if_pos q2, if_pos q1, if_pos q3, if_pos q4, if_pos q5, e1, e2, if_pos c]
  ·rw [if_neg c]
   refine Ev.step (fun k => ?_) hi
   rw [Trial.trial_edits.l1, w1, if_pos q1, if_pos q2, if_pos q1, if_pos q3, if_pos q4, if_pos q5, e1, e2, if_neg c, if_pos q6, wid (x := (pre.length : Int) + 1 + 1) (by omega) (by omega)]
theorem edits_l1_all (a : List S36) (L : List S34) (ha : a.length ≤ 1000000) (hL : L.length ≤ 1000000) : Ev (fun k => Trial.trial_edits.l1 k a L L L (L.length : Int) 0) (0, ordS a L) := by
 have H := edits_l2 a L ha hL a [] rfl
 cases hl : L with
 | nil =>
  subst hl
  have q : ¬ ((0 : Int) < (([] : List S34).length : Int)) := by simp
  refine Ev.step (fun k => ?_) H
  rw [Trial.trial_edits.l1, if_neg q]
  rfl
 | cons x r =>
  have hi := edits_l1 a L ha hL (0, chkS L 0 a) H r [] x hl
  rw [← hl]
  have q1 : (0 : Int) < (L.length : Int) := by rw [hl]; simp only [List.length_cons]; omega
  have q3 : ¬ ((0 : Int) > 0) := by decide
  have q6 : ([] : List S58).length < 4398046511104 := by decide
  have e : (match badO (x :: r) with | some c => (0, 3, c.f0, c.f1) | none => (0, chkS L 0 a)) = ((0 : Int), ordS a L) := by
   unfold ordS
   rw [← hl]
   cases badO L <;> rfl
  rw [e] at hi
  refine Ev.step (fun k => ?_) hi
  have w1 : wrap64 (0 + 1) = ((([] : List S34).length : Int) + 1) := by rw [wid (by decide) (by decide)]; rfl
  rw [Trial.trial_edits.l1, if_pos q1, if_pos (Int.le_refl _), if_pos q1, if_neg q3, if_pos q6, w1]
theorem edits_l0 (a : List S36) (L : List S34) (ha : a.length ≤ 1000000) (hL : L.length ≤ 1000000) : ∀ (r pre : List S34), L = pre ++ r → (∀ x ∈ pre, inF a.length x) →
  Ev (fun k => Trial.trial_edits.l0 k a L L L (L.length : Int) (pre.length : Int)) (match badF a.length r with | some c => (0, 2, c.f0, c.f1) | none => (0, ordS a L)) := by
 intro r
 induction r with
 | nil =>
  intro pre he hp
  rw [List.append_nil] at he
  subst he
  have q : ¬ ((L.length : Int) < (L.length : Int)) := Int.lt_irrefl _
  refine Ev.step (fun k => ?_) (edits_l1_all a L ha hL)
  rw [Trial.trial_edits.l0, if_neg q, if_pos (show ∀ x ∈ L, 0 ≤ x.f0 ∧ x.f0 < (a.length : Int) from hp)]
 | cons x r ih =>
  intro pre he hp
  have hlen : L.length = pre.length + 1 + r.length := by rw [he]; simp only [List.length_append, List.length_cons]; omega
  have q1 : (pre.length : Int) < (L.length : Int) := by omega
  have q2 : (0 : Int) ≤ (pre.length : Int) := Int.natCast_nonneg _
  have e : rd_T34 L (pre.length : Int) = x := by rw [he]; exact rd34 pre x r
  unfold badF
  by_cases c : x.f0 < 0
  ·rw [if_pos c]
   refine Ev.step (f := fun _ => some (0, 2, x.f0, x.f1)) (fun k => ?_) (Ev.now _)
   rw [Trial.trial_edits.l0, if_pos q1, if_pos q2, if_pos q1, e, if_pos c]
  ·rw [if_neg c]
   by_cases d : x.f0 ≥ (a.length : Int)
   ·rw [if_pos d]
    refine Ev.step (f := fun _ => some (0, 2, x.f0, x.f1)) (fun k => ?_) (Ev.now _)
    rw [Trial.trial_edits.l0, if_pos q1, if_pos q2, if_pos q1, e, if_neg c, if_pos d]
   ·rw [if_neg d]
    have hi := ih (pre ++ [x]) (by rw [he, app34]) (fun y hy => by
     rcases List.mem_append.mp hy with hy | hy
     ·exact hp y hy
     ·rw [List.mem_singleton.mp hy]; exact ⟨by omega, by omega⟩)
    rw [List.length_append] at hi
    refine Ev.step (fun k => ?_) hi
    rw [Trial.trial_edits.l0, if_pos q1, if_pos q2, if_pos q1, e, if_neg c, if_neg d, wsucc pre.length (by omega)]
    rfl
theorem edits_ev (a : List S36) (L : List S34) (ha : a.length ≤ 1000000) (hL : L.length ≤ 1000000) : Ev (fun k => Trial.trial_edits.f k a L) (0, fault a L) := by
 have := edits_l0 a L ha hL L [] rfl (fun x hx => by cases hx)
 have e : (match badF a.length L with | some c => (0, 2, c.f0, c.f1) | none => (0, ordS a L)) = ((0 : Int), fault a L) := by
  unfold fault
  cases badF a.length L <;> rfl
 rw [e] at this
 exact this
/-! ### what they make -/
def okT (t : Int × Int × Int) : Prop := t = (0, 0, 0)
instance (t : Int × Int × Int) : Decidable (okT t) := by unfold okT; infer_instance
def edF (L : List S34) (i : Nat) (x : S36) : S36 := ⟨x.f0, ⟨(app (bs x.f1) (ofl (i : Int) L) 0).toArray⟩⟩
def edA (L : List S34) : Nat → List S36 → List S36
 | _, [] => []
 | i, x :: r => edF L i x :: edA L (i + 1) r
theorem edA_len (L : List S34) : ∀ (i : Nat) (a : List S36), (edA L i a).length = a.length
 | _, [] => rfl
 | i, x :: r => by rw [edA, List.length_cons, List.length_cons, edA_len L (i + 1) r]
theorem chkS_ok (L : List S34) : ∀ (a : List S36) (i : Nat), (chkS L i a).1 = 0 → chkS L i a = (0, 0, 0) ∧ ∀ (j : Nat) (x : S36), a[j]? = some x → checkSpec (x.f1.size : Int) (ofl ((i + j : Nat) : Int) L) = 0
 | [], i, h => ⟨rfl, fun j x hx => by simp at hx⟩
 | y :: r, i, h => by
  rw [chkS] at h ⊢
  by_cases c : checkSpec (y.f1.size : Int) (ofl (i : Int) L) = 0
  ·rw [if_pos c] at h ⊢
   obtain ⟨h1, h2⟩ := chkS_ok L r (i + 1) h
   refine ⟨h1, fun j x hx => ?_⟩
   cases j with
   | zero =>
    rw [List.getElem?_cons_zero] at hx
    cases hx
    exact c
   | succ j =>
    rw [List.getElem?_cons_succ] at hx
    have := h2 j x hx
    rw [show i + (j + 1) = i + 1 + j by omega]
    exact this
  ·rw [if_neg c] at h
   exact absurd h c
theorem fault_zero (a : List S36) (L : List S34) (h : (fault a L).1 = 0) : fault a L = (0, 0, 0) ∧ (∀ x ∈ L, inF a.length x) ∧ badO L = none ∧ ∀ (j : Nat) (x : S36), a[j]? = some x → checkSpec (x.f1.size : Int) (ofl (j : Int) L) = 0 := by
 unfold fault at h ⊢
 cases hb : badF a.length L with
 | some c => rw [hb] at h; exact absurd h (show ¬ ((2 : Int) = 0) by decide)
 | none =>
  rw [hb] at h
  change (ordS a L).1 = 0 at h
  unfold ordS at h ⊢
  cases ho : badO L with
  | some c => rw [ho] at h; exact absurd h (show ¬ ((3 : Int) = 0) by decide)
  | none =>
   rw [ho] at h
   obtain ⟨h1, h2⟩ := chkS_ok L a 0 h
   refine ⟨h1, badF_none hb, rfl, fun j x hx => ?_⟩
   have := h2 j x hx
   rwa [Nat.zero_add] at this
theorem fault_ne (a : List S36) (L : List S34) (h : ¬ okT (fault a L)) : (fault a L).1 ≠ 0 := fun e => h (fault_zero a L e).1
theorem ofl_size (i : Int) : ∀ L : List S34, sumSize (ofl i L) ≤ (L.map fun x => (x.f3.size : Int)).sum
 | [] => Int.le_refl _
 | x :: r => by
  have ih := ofl_size i r
  rw [List.map_cons, List.sum_cons]
  have e : ofl i (x :: r) = if (x.f0 == i) = true then eof x :: ofl i r else ofl i r := by
   unfold ofl
   rw [List.filter_cons]
   split <;> simp
  rw [e]
  split
  ·show (x.f3.size : Int) + _ ≤ _
   omega
  ·omega
def txt (L : List S34) : Int := (L.map fun x => (x.f3.size : Int)).sum
theorem txt_nonneg : ∀ L : List S34, 0 ≤ txt L
 | [] => Int.le_refl _
 | x :: r => by
  have := txt_nonneg r
  unfold txt at this ⊢
  rw [List.map_cons, List.sum_cons]
  omega
def fits (n : Int) (a : List S36) : Prop := a.length ≤ 4 ∧ ∀ x ∈ a, (x.f1.size : Int) ≤ n
theorem fits.mono {n m : Int} {a : List S36} (h : fits n a) (hm : n ≤ m) : fits m a := ⟨h.1, fun x hx => Int.le_trans (h.2 x hx) hm⟩
theorem edF_size (L : List S34) (i : Nat) (x : S36) (h : checkSpec (x.f1.size : Int) (ofl (i : Int) L) = 0) : ((edF L i x).f1.size : Int) ≤ x.f1.size + txt L := by
 have hc := chain_zero h
 have hl := bs_len x.f1
 rw [← hl] at hc
 have := app_len (bs x.f1) (ofl (i : Int) L) 0 hc
 have e : ((edF L i x).f1.size : Int) = ((app (bs x.f1) (ofl (i : Int) L) 0).length : Int) := by
  show (((⟨(app (bs x.f1) (ofl (i : Int) L) 0).toArray⟩ : ByteArray).size : Nat) : Int) = _
  congr 1
 have h2 := ofl_size (i : Int) L
 unfold txt
 omega
theorem edA_get (L : List S34) : ∀ (a : List S36) (i j : Nat), (edA L i a)[j]? = (a[j]?).map (edF L (i + j))
 | [], i, j => rfl
 | x :: r, i, 0 => rfl
 | x :: r, i, j + 1 => by
  rw [edA, List.getElem?_cons_succ, List.getElem?_cons_succ, edA_get L r (i + 1) j, show i + 1 + j = i + (j + 1) by omega]
theorem edA_fits (a : List S36) (L : List S34) (n : Int) (h : okT (fault a L)) (hf : fits n a) : fits (n + txt L) (edA L 0 a) := by
 have h0 := (fault_zero a L (by rw [h]))
 refine ⟨by rw [edA_len]; exact hf.1, fun x hx => ?_⟩
 obtain ⟨j, hj⟩ := List.getElem?_of_mem hx
 rw [edA_get, Option.map_eq_some_iff] at hj
 obtain ⟨y, hy, rfl⟩ := hj
 have h1 := h0.2.2.2 j y hy
 rw [Nat.zero_add]
 have h2 := edF_size L j y h1
 have h3 := hf.2 y (List.mem_of_getElem? hy)
 omega
theorem Apply_l0 (a : List S36) (L : List S34) (ha : a.length ≤ 1000000) (hL : L.length ≤ 1000000) (n : Int) (hf : fits n a) (hn : n + txt L ≤ 1000000000) (h : okT (fault a L)) : ∀ (r pre : List S36) (ipre : List S36), a = ipre ++ r → pre.length = ipre.length →
  Ev (fun k => Trial.trial_Apply.l0 k L a (pre ++ r) (a.length : Int) (pre.length : Int)) (pre ++ edA L pre.length r, 0, 0, 0) := by
 intro r
 induction r with
 | nil =>
  intro pre ipre he hp
  rw [List.append_nil] at he
  have q : ¬ ((pre.length : Int) < (a.length : Int)) := by rw [he, hp]; exact Int.lt_irrefl _
  exact Ev.step (f := fun _ => some (pre ++ ([] : List S36), 0, 0, 0)) (fun k => by rw [Trial.trial_Apply.l0, if_neg q]) (Ev.now _)
 | cons x r ih =>
  intro pre ipre he hp
  have hlen : a.length = ipre.length + 1 + r.length := by rw [he]; simp only [List.length_append, List.length_cons]; omega
  have q1 : (pre.length : Int) < (a.length : Int) := by omega
  have q2 : (0 : Int) ≤ (pre.length : Int) := Int.natCast_nonneg _
  have q3 : (pre.length : Int) < ((pre ++ x :: r).length : Int) := by simp only [List.length_append, List.length_cons]; omega
  have e1 : rd_T36 a (pre.length : Int) = x := by rw [he, hp]; exact rd36 ipre x r
  have e2 : rd_T36 (pre ++ x :: r) (pre.length : Int) = x := rd36 pre x r
  have hx : a[pre.length]? = some x := by rw [he, hp, List.getElem?_append_right (Nat.le_refl _), Nat.sub_self, List.getElem?_cons_zero]
  have hck := (fault_zero a L (by rw [h])).2.2.2 pre.length x hx
  have hsz := hf.2 x (List.mem_of_getElem? hx)
  have hz := ofl_size (pre.length : Int) L
  have hzl := ofl_le (pre.length : Int) L
  have hap := Apply_ev x.f1 (ofl (pre.length : Int) L) (by omega) (by have h0_ := txt_nonneg L; unfold txt at hn h0_; omega)
  rw [if_pos hck] at hap
  have hset : (pre ++ x :: r).set ((pre.length : Int)).toNat (edF L pre.length x) = (pre ++ [edF L pre.length x]) ++ r := by
   rw [Int.toNat_natCast, List.set_append_right _ _ (Nat.le_refl _), Nat.sub_self, List.set_cons_zero, List.append_assoc]
   rfl
  have hi := ih (pre ++ [edF L pre.length x]) (ipre ++ [x]) (by rw [he, app36]) (by simp [hp])
  rw [List.length_append] at hi
  refine Ev.step (f := fun k => (edit_Apply.f k x.f1 (ofl (pre.length : Int) L)).bind fun bt139 => Trial.trial_Apply.l0 k L a ((pre ++ x :: r).set ((pre.length : Int)).toNat (⟨x.f0, bt139.1⟩ : S36)) (a.length : Int) (wrap64 ((pre.length : Int) + 1))) (fun k => by rw [Trial.trial_Apply.l0, if_pos q1, if_pos q2, if_pos q1, e1, e2]; simp only [if_pos q3]) ?_
  refine Ev.bind (f := fun k t => _) hap ?_
  change Ev (fun k => Trial.trial_Apply.l0 k L a ((pre ++ x :: r).set ((pre.length : Int)).toNat (edF L pre.length x)) (a.length : Int) (wrap64 ((pre.length : Int) + 1))) _
  rw [hset, wsucc pre.length (by omega), edA]
  simp only [List.append_assoc, List.singleton_append] at hi ⊢
  exact hi
theorem Apply_ev' (a : List S36) (L : List S34) (hL : L.length ≤ 1000000) (n : Int) (hf : fits n a) (hn : n + txt L ≤ 1000000000) :
  Ev (fun k => trial_Apply.f k a L) (if okT (fault a L) then (edA L 0 a, 0, 0, 0) else ([], fault a L)) := by
 have ha : a.length ≤ 1000000 := by have := hf.1; omega
 refine Ev.congr (f := fun k => (Trial.trial_edits.f k a L).bind fun bt130 => (if (!(bt130.2.1 == 0) || (!(bt130.2.2.1 == 0) || (!(bt130.2.2.2 == 0)))) = true then (some (([] : List (S36)), bt130.2.1, bt130.2.2.1, bt130.2.2.2)) else ((api_File.f a).bind fun t135 => (Trial.trial_Apply.l0 k L a t135 (t135.length : Int) 0)))) (fun k => ?_) ?_
 ·show (if a.length ≤ 1000000 ∧ L.length ≤ 1000000 then _ else none) = _
  rw [if_pos ⟨ha, hL⟩]
 refine Ev.bind (f := fun k t => _) (edits_ev a L ha hL) ?_
 by_cases c : okT (fault a L)
 ·rw [if_pos c]
  have c' : fault a L = (0, 0, 0) := c
  rw [c']
  refine Ev.ite_neg (by decide) ?_
  refine Ev.bind (f := fun k t => Trial.trial_Apply.l0 k L a t (t.length : Int) 0) (a := a) ?_ ?_
  ·refine Ev.congr (f := fun _ => some a) (fun k => ?_) (Ev.now _)
   unfold api_File.f
   rw [if_pos (by omega)]
  ·exact Apply_l0 a L ha hL n hf hn c a [] [] rfl rfl
 ·rw [if_neg c]
  refine Ev.ite_pos ?_ (Ev.now _)
  have := fault_ne a L c
  have e : ((fault a L).1 == 0) = false := beq_eq_false_iff_ne.mpr this
  show (!((fault a L).1 == 0) || _) = true
  rw [e]
  rfl
end Go.Proofs.Ytclcnglamlegiaa.Mg
namespace Go.Proofs.Ytclcnglamlegiaa.Mg
open Go Go.RowKit Go.Proofs.YtclcnglamlegiaaW.PrintWords Go.Proofs.YtclcnglamlegiaaW.PrintLast Go.Proofs.YtclcnglamlegiaaW.PrintMore Go.Proofs.Ytclcnglamlegiaa.PMD
open Go.Proofs.Ytclcnglamlegiaa.Trial (ofl eof)
set_option linter.unusedVariables false
set_option linter.unusedSimpArgs false
/-! ### the files behind each step -/
def eachS : List S36 → List (List S34) → Nat → List S36 × Int × Int × Int × Int
 | a, [], _ => (a, 0, 0, 0, 0)
 | a, L :: r, i => if okT (fault a L) then eachS (edA L 0 a) r (i + 1) else ([], (i : Int), fault a L)
def txts (s : List (List S34)) : Int := (s.map txt).sum
theorem txts_cons (L : List S34) (r : List (List S34)) : txts (L :: r) = txt L + txts r := by simp [txts]
theorem txts_nonneg : ∀ s : List (List S34), 0 ≤ txts s
 | [] => Int.le_refl _
 | L :: r => by
  have := txts_nonneg r
  have := txt_nonneg L
  rw [txts_cons]
  omega
theorem rdL4 (pre : List (List S34)) (x : List S34) (r : List (List S34)) : rd_L4 (pre ++ x :: r) (pre.length : Int) = x := by
 unfold rd_L4
 rw [List.getD_eq_getElem?_getD]
 simp
theorem each_l0 (s : List (List S34)) (hs : s.length ≤ 1000000) (hL : ∀ L ∈ s, L.length ≤ 1000000) : ∀ (r pre : List (List S34)) (a : List S36) (n : Int), s = pre ++ r → fits n a → n + txts r ≤ 1000000000 →
  Ev (fun k => merge_each.l0 k a s (s.length : Int) (pre.length : Int)) (eachS a r pre.length) := by
 intro r
 induction r with
 | nil =>
  intro pre a n he hf hn
  have q : ¬ ((pre.length : Int) < (s.length : Int)) := by rw [he]; simp
  exact Ev.step (f := fun _ => some (a, 0, 0, 0, 0)) (fun k => by rw [merge_each.l0, if_neg q]) (Ev.now _)
 | cons L r ih =>
  intro pre a n he hf hn
  have hlen : s.length = pre.length + 1 + r.length := by rw [he]; simp only [List.length_append, List.length_cons]; omega
  have q1 : (pre.length : Int) < (s.length : Int) := by omega
  have q2 : (0 : Int) ≤ (pre.length : Int) := Int.natCast_nonneg _
  have e : rd_L4 s (pre.length : Int) = L := by rw [he]; exact rdL4 pre L r
  rw [txts_cons] at hn
  have h1 := txts_nonneg r
  have hap := Apply_ev' a L (hL L (by rw [he]; simp)) n hf (by omega)
  refine Ev.step (f := fun k => (trial_Apply.f k a L).bind fun bt116 => (if (!(bt116.2.1 == 0) || (!(bt116.2.2.1 == 0) || (!(bt116.2.2.2 == 0)))) = true then (some (([] : List (S36)), (pre.length : Int), bt116.2.1, bt116.2.2.1, bt116.2.2.2)) else ((merge_Net_1.f a L).bind fun _ => (merge_each.l0 k bt116.1 s (s.length : Int) (wrap64 ((pre.length : Int) + 1)))))) (fun k => by rw [merge_each.l0, if_pos q1, if_pos q2, if_pos q1, e]) ?_
  refine Ev.bind (f := fun k t => _) hap ?_
  unfold eachS
  by_cases c : okT (fault a L)
  ·rw [if_pos c, if_pos c]
   refine Ev.ite_neg (show ¬ ((!((0 : Int) == 0) || (!((0 : Int) == 0) || (!((0 : Int) == 0)))) = true) by decide) ?_
   have hi := ih (pre ++ [L]) (edA L 0 a) (n + txt L) (by rw [he]; simp) (edA_fits a L n c hf) (by omega)
   rw [List.length_append] at hi
   rw [wsucc pre.length (by omega)]
   exact hi
  ·rw [if_neg c, if_neg c]
   refine Ev.ite_pos ?_ (Ev.now _)
   have e : ((fault a L).1 == 0) = false := beq_eq_false_iff_ne.mpr (fault_ne a L c)
   show (!((fault a L).1 == 0) || _) = true
   rw [e]
   rfl
theorem each_ev (a : List S36) (s : List (List S34)) (hs : s.length ≤ 1000000) (hL : ∀ L ∈ s, L.length ≤ 1000000) (n : Int) (hf : fits n a) (hn : n + txts s ≤ 1000000000) : Ev (fun k => merge_each.f k a s) (eachS a s 0) :=
 each_l0 s hs hL s [] a n rfl hf hn
theorem eachS_ok : ∀ (s : List (List S34)) (a : List S36) (i : Nat) (n : Int), fits n a → okT (eachS a s i).2.2 → (eachS a s i).1.length = a.length ∧ fits (n + txts s) (eachS a s i).1 ∧ (eachS a s i).2.1 = 0
 | [], a, i, n, hf, h => ⟨rfl, by rw [show txts [] = 0 from rfl, Int.add_zero]; exact hf, rfl⟩
 | L :: r, a, i, n, hf, h => by
  unfold eachS at h ⊢
  by_cases c : okT (fault a L)
  ·rw [if_pos c] at h ⊢
   obtain ⟨h1, h2, h3⟩ := eachS_ok r (edA L 0 a) (i + 1) (n + txt L) (edA_fits a L n c hf) h
   rw [edA_len] at h1
   rw [txts_cons, ← Int.add_assoc]
   exact ⟨h1, h2, h3⟩
  ·rw [if_neg c] at h
   exact absurd h c
theorem eachS_bad : ∀ (s : List (List S34)) (a : List S36) (i : Nat), ¬ okT (eachS a s i).2.2 → (eachS a s i).1 = [] ∧ (eachS a s i).2.2.1 ≠ 0
 | [], a, i, h => absurd rfl h
 | L :: r, a, i, h => by
  unfold eachS at h ⊢
  by_cases c : okT (fault a L)
  ·rw [if_pos c] at h ⊢
   exact eachS_bad r (edA L 0 a) (i + 1) h
  ·rw [if_neg c] at h ⊢
   exact ⟨rfl, fault_ne a L c⟩
/-! ### texts that begin, and end, alike -/
def lcp : List UInt8 → List UInt8 → Nat
 | x :: s, y :: t => if x = y then lcp s t + 1 else 0
 | _, _ => 0
theorem lcp_nl (t : List UInt8) : lcp [] t = 0 := by cases t <;> rfl
theorem lcp_nr (s : List UInt8) : lcp s [] = 0 := by cases s <;> rfl
theorem lcp_le : ∀ s t : List UInt8, lcp s t ≤ s.length ∧ lcp s t ≤ t.length
 | [], t => by simp [lcp]
 | _ :: _, [] => by simp [lcp]
 | x :: s, y :: t => by
  unfold lcp
  have := lcp_le s t
  split <;> simp only [List.length_cons] <;> omega
theorem lcp_take : ∀ s t : List UInt8, s.take (lcp s t) = t.take (lcp s t)
 | [], t => by simp [lcp]
 | _ :: _, [] => by simp [lcp]
 | x :: s, y :: t => by
  unfold lcp
  by_cases c : x = y
  ·rw [if_pos c, List.take_succ_cons, List.take_succ_cons, c, lcp_take s t]
  ·rw [if_neg c]; simp
theorem bt_get (s : ByteArray) (i : Nat) (h : i < s.size) : bt s (i : Int) = (((bs s)[i]'(by rw [bs_len]; exact h)).toNat : Int) := by
 unfold bt
 rw [dif_pos (by simpa using h)]
 rfl
theorem bt_drop (s : ByteArray) (i : Nat) (c : UInt8) (r : List UInt8) (he : (bs s).drop i = c :: r) : i < s.size ∧ bt s (i : Int) = (c.toNat : Int) := by
 have h : i < (bs s).length := by
  have := congrArg List.length he
  rw [List.length_drop, List.length_cons] at this
  omega
 have h2 := List.drop_eq_getElem_cons h
 rw [he] at h2
 injection h2 with h3 _
 rw [bs_len] at h
 refine ⟨h, ?_⟩
 rw [bt_get s i h, ← h3]
theorem bt_back (s : ByteArray) (i : Nat) (c : UInt8) (r : List UInt8) (he : (bs s).reverse.drop i = c :: r) : i < s.size ∧ bt s ((s.size : Int) - 1 - (i : Int)) = (c.toNat : Int) := by
 have h : i < (bs s).reverse.length := by
  have := congrArg List.length he
  rw [List.length_drop, List.length_cons] at this
  omega
 have h2 := List.drop_eq_getElem_cons h
 rw [he] at h2
 injection h2 with h3 _
 rw [List.getElem_reverse] at h3
 rw [List.length_reverse, bs_len] at h
 refine ⟨h, ?_⟩
 have e : (s.size : Int) - 1 - (i : Int) = ((s.size - 1 - i : Nat) : Int) := by omega
 rw [e, bt_get s (s.size - 1 - i) (by omega), h3]
 congr 3
theorem u8 {x y : UInt8} : ((x.toNat : Int) = (y.toNat : Int)) ↔ x = y := by
 rw [Int.ofNat_inj]
 exact UInt8.toNat_inj
theorem drop_next {α : Type} {l : List α} {n : Nat} {x : α} {r : List α} (h : l.drop n = x :: r) : l.drop (n + 1) = r := by rw [← List.drop_drop, h]; rfl
theorem ahead_l0 (s t : ByteArray) (hs : s.size ≤ 1000000000) : ∀ (u v : List UInt8) (n : Nat), (bs s).drop n = u → (bs t).drop n = v → Ev (fun k => merge_ahead.l0 k s t (n : Int)) ((n + lcp u v : Nat) : Int) := by
 intro u
 induction u with
 | nil =>
  intro v n h1 h2
  have h := List.drop_eq_nil_iff.mp h1
  rw [bs_len] at h
  have q : ¬ ((n : Int) < (s.size : Int)) := by omega
  refine Ev.step (f := fun k => merge_ahead.j1 k s t (n : Int) false) (fun k => by rw [merge_ahead.l0, if_neg q]) ?_
  exact Ev.step (f := fun _ => some (n : Int)) (fun k => by rw [merge_ahead.j1, if_neg (by decide)]) (by rw [lcp_nl]; exact Ev.now _)
 | cons x u ih =>
  intro v n h1 h2
  obtain ⟨g1, g2⟩ := bt_drop s n x u h1
  have q : (n : Int) < (s.size : Int) := by omega
  cases v with
  | nil =>
   have h := List.drop_eq_nil_iff.mp h2
   rw [bs_len] at h
   have q2 : decide ((n : Int) < (t.size : Int)) = false := decide_eq_false (by omega)
   refine Ev.step (f := fun k => merge_ahead.j1 k s t (n : Int) false) (fun k => by rw [merge_ahead.l0, if_pos q, q2]) ?_
   exact Ev.step (f := fun _ => some (n : Int)) (fun k => by rw [merge_ahead.j1, if_neg (by decide)]) (by rw [lcp_nr]; exact Ev.now _)
  | cons y v =>
   obtain ⟨g3, g4⟩ := bt_drop t n y v h2
   have q2 : (n : Int) < (t.size : Int) := by omega
   refine Ev.step (f := fun k => merge_ahead.j1 k s t (n : Int) true) (fun k => by rw [merge_ahead.l0, if_pos q, decide_eq_true q2]) ?_
   by_cases c : x = y
   ·have e : n + lcp (x :: u) (y :: v) = n + 1 + lcp u v := by rw [lcp, if_pos c]; omega
    rw [e]
    refine Ev.step (fun k => ?_) (ih v (n + 1) (drop_next h1) (drop_next h2))
    rw [merge_ahead.j1, if_pos rfl, if_pos (Int.natCast_nonneg n), if_pos q, if_pos q2, g2, g4, if_pos (u8.mpr c), wsucc n (by omega)]
   ·have e : n + lcp (x :: u) (y :: v) = n := by rw [lcp, if_neg c, Nat.add_zero]
    rw [e]
    refine Ev.step (f := fun _ => some (n : Int)) (fun k => ?_) (Ev.now _)
    rw [merge_ahead.j1, if_pos rfl, if_pos (Int.natCast_nonneg n), if_pos q, if_pos q2, g2, g4, if_neg (fun h => c (u8.mp h))]
theorem ahead_ev (s t : ByteArray) (hs : s.size ≤ 1000000000) : Ev (fun k => merge_ahead.f k s t) ((lcp (bs s) (bs t) : Nat) : Int) := by
 have := ahead_l0 s t hs (bs s) (bs t) 0 rfl rfl
 rw [Nat.zero_add] at this
 exact this
theorem behind_l0 (s t : ByteArray) (hs : s.size ≤ 1000000000) (ht : t.size ≤ 1000000000) : ∀ (u v : List UInt8) (n : Nat), (bs s).reverse.drop n = u → (bs t).reverse.drop n = v → Ev (fun k => merge_behind.l0 k s t (n : Int)) ((n + lcp u v : Nat) : Int) := by
 intro u
 induction u with
 | nil =>
  intro v n h1 h2
  have h := List.drop_eq_nil_iff.mp h1
  rw [List.length_reverse, bs_len] at h
  have q : ¬ ((n : Int) < (s.size : Int)) := by omega
  exact Ev.step (f := fun _ => some (n : Int)) (fun k => by rw [merge_behind.l0, if_neg q]) (by rw [lcp_nl]; exact Ev.now _)
 | cons x u ih =>
  intro v n h1 h2
  obtain ⟨g1, g2⟩ := bt_back s n x u h1
  have q : (n : Int) < (s.size : Int) := by omega
  cases v with
  | nil =>
   have h := List.drop_eq_nil_iff.mp h2
   rw [List.length_reverse, bs_len] at h
   have q2 : ¬ ((n : Int) < (t.size : Int)) := by omega
   exact Ev.step (f := fun _ => some (n : Int)) (fun k => by rw [merge_behind.l0, if_pos q, if_neg q2]) (by rw [lcp_nr]; exact Ev.now _)
  | cons y v =>
   obtain ⟨g3, g4⟩ := bt_back t n y v h2
   have q2 : (n : Int) < (t.size : Int) := by omega
   have w1 : wrap64 ((s.size : Int) - 1) = (s.size : Int) - 1 := wid (by omega) (by omega)
   have w2 : wrap64 ((s.size : Int) - 1 - (n : Int)) = (s.size : Int) - 1 - (n : Int) := wid (by omega) (by omega)
   have w3 : wrap64 ((t.size : Int) - 1) = (t.size : Int) - 1 := wid (by omega) (by omega)
   have w4 : wrap64 ((t.size : Int) - 1 - (n : Int)) = (t.size : Int) - 1 - (n : Int) := wid (by omega) (by omega)
   have q3 : 0 ≤ (s.size : Int) - 1 - (n : Int) := by omega
   have q4 : (s.size : Int) - 1 - (n : Int) < (s.size : Int) := by omega
   have q5 : 0 ≤ (t.size : Int) - 1 - (n : Int) := by omega
   have q6 : (t.size : Int) - 1 - (n : Int) < (t.size : Int) := by omega
   by_cases c : x = y
   ·have e : n + lcp (x :: u) (y :: v) = n + 1 + lcp u v := by rw [lcp, if_pos c]; omega
    rw [e]
    refine Ev.step (fun k => ?_) (ih v (n + 1) (drop_next h1) (drop_next h2))
    rw [merge_behind.l0, w1, w2, w3, w4, if_pos q, if_pos q2, if_pos q3, if_pos q4, if_pos q5, if_pos q6, g2, g4, if_pos (u8.mpr c), wsucc n (by omega)]
   ·have e : n + lcp (x :: u) (y :: v) = n := by rw [lcp, if_neg c, Nat.add_zero]
    rw [e]
    refine Ev.step (f := fun _ => some (n : Int)) (fun k => ?_) (Ev.now _)
    rw [merge_behind.l0, w1, w2, w3, w4, if_pos q, if_pos q2, if_pos q3, if_pos q4, if_pos q5, if_pos q6, g2, g4, if_neg (fun h => c (u8.mp h))]
theorem behind_ev (s t : ByteArray) (hs : s.size ≤ 1000000000) (ht : t.size ≤ 1000000000) : Ev (fun k => merge_behind.f k s t) ((lcp (bs s).reverse (bs t).reverse : Nat) : Int) := by
 have := behind_l0 s t hs ht (bs s).reverse (bs t).reverse 0 rfl rfl
 rw [Nat.zero_add] at this
 exact this
/-! ### the least stretch -/
def pre (s t : ByteArray) : Nat := lcp (bs s) (bs t)
def suf (s t : ByteArray) : Nat := lcp ((bs s).drop (pre s t)).reverse ((bs t).drop (pre s t)).reverse
theorem pre_le (s t : ByteArray) : pre s t ≤ s.size ∧ pre s t ≤ t.size := by
 have := lcp_le (bs s) (bs t)
 rw [bs_len, bs_len] at this
 exact this
theorem suf_le (s t : ByteArray) : pre s t + suf s t ≤ s.size ∧ pre s t + suf s t ≤ t.size := by
 have h := lcp_le ((bs s).drop (pre s t)).reverse ((bs t).drop (pre s t)).reverse
 rw [List.length_reverse, List.length_reverse, List.length_drop, List.length_drop, bs_len, bs_len] at h
 have := pre_le s t
 unfold suf
 omega
theorem bs_from (s : ByteArray) (n : Nat) (h : n ≤ s.size) : bs (s.extract n s.size) = (bs s).drop n := by
 have := bs_extract s (n : Int) (s.size : Int) (by simp)
 rw [Int.toNat_natCast, Int.toNat_natCast] at this
 rw [this]
 unfold seg
 rw [Int.toNat_natCast, Int.toNat_natCast]
 exact List.take_of_length_le (by rw [List.length_drop, bs_len]; exact Nat.le_refl _)
theorem bs_mid (s : ByteArray) (n m : Nat) (h : m ≤ s.size) : bs (s.extract n m) = ((bs s).drop n).take (m - n) := by
 have := bs_extract s (n : Int) (m : Int) (by simpa using h)
 rw [Int.toNat_natCast, Int.toNat_natCast] at this
 rw [this]
 unfold seg
 rw [Int.toNat_natCast, Int.toNat_natCast]
theorem toList_inj {s t : ByteArray} : s.toList = t.toList ↔ s = t :=
 ⟨fun h => bs_inj (by rw [toList_eq, toList_eq] at h; exact h), fun h => h ▸ rfl⟩
def mid (s t : ByteArray) : ByteArray := t.extract (pre s t) (t.size - suf s t)
def tightS (s t : ByteArray) : Int × Int × ByteArray × Bool :=
 if s = t then (0, 0, (⟨#[]⟩ : ByteArray), false) else ((pre s t : Int), ((s.size - suf s t : Nat) : Int), mid s t, true)
theorem tight_ev (s t : ByteArray) (hs : s.size ≤ 1000000000) (ht : t.size ≤ 1000000000) : Ev (fun k => merge_tight.f k s t) (tightS s t) := by
 unfold merge_tight.f tightS
 by_cases c : s = t
 ·rw [if_pos c]
  exact Ev.ite_pos (toList_inj.mpr c) (Ev.now _)
 ·rw [if_neg c]
  refine Ev.ite_neg (fun h => c (toList_inj.mp h)) ?_
  refine Ev.bind (f := fun k t => _) (ahead_ev s t hs) ?_
  have p1 := pre_le s t
  have p2 := suf_le s t
  have q1 : ((lcp (bs s) (bs t) : Nat) : Int) ≤ (s.size : Int) := by have := p1.1; unfold pre at this; omega
  have q2 : ((lcp (bs s) (bs t) : Nat) : Int) ≤ (t.size : Int) := by have := p1.2; unfold pre at this; omega
  refine Ev.ite_pos (Int.natCast_nonneg _) (Ev.ite_pos q1 (Ev.ite_pos q2 ?_))
  rw [Int.toNat_natCast]
  change Ev (fun n => (merge_behind.f n (s.extract (pre s t) s.size) (t.extract (pre s t) t.size)).bind fun t125 => _) _
  have hb := behind_ev (s.extract (pre s t) s.size) (t.extract (pre s t) t.size) (by rw [← bs_len, bs_from s _ p1.1, List.length_drop, bs_len]; omega) (by rw [← bs_len, bs_from t _ p1.2, List.length_drop, bs_len]; omega)
  rw [bs_from s _ p1.1, bs_from t _ p1.2] at hb
  refine Ev.bind (f := fun k t => _) hb ?_
  change Ev (fun n => if ((pre s t : Nat) : Int) ≤ wrap64 ((t.size : Int) - ((suf s t : Nat) : Int)) then (if wrap64 ((t.size : Int) - ((suf s t : Nat) : Int)) ≤ (t.size : Int) then some (((pre s t : Nat) : Int), wrap64 ((s.size : Int) - ((suf s t : Nat) : Int)), t.extract (pre s t) (wrap64 ((t.size : Int) - ((suf s t : Nat) : Int))).toNat, true) else none) else none) _
  have w1 : wrap64 ((t.size : Int) - ((suf s t : Nat) : Int)) = ((t.size - suf s t : Nat) : Int) := by rw [wid (by omega) (by omega)]; omega
  have w2 : wrap64 ((s.size : Int) - ((suf s t : Nat) : Int)) = ((s.size - suf s t : Nat) : Int) := by rw [wid (by omega) (by omega)]; omega
  rw [w1, w2, Int.toNat_natCast]
  exact Ev.ite_pos (by omega) (Ev.ite_pos (by omega) (Ev.now _))
/-! ### merge.Net -/
def tch (i : Nat) (s t : ByteArray) : S34 := ⟨(i : Int), (pre s t : Int), ((s.size - suf s t : Nat) : Int), mid s t⟩
def netS : Nat → List S36 → List S36 → List S34
 | i, x :: a, y :: b => if x.f1 = y.f1 then netS (i + 1) a b else tch i x.f1 y.f1 :: netS (i + 1) a b
 | _, _, _ => []
theorem check_one (n : Int) (e : S58) (h : okE n e) : checkSpec n [e] = 0 := by
 have h2 : allOk n [e] = true := by
  unfold allOk
  rw [decide_eq_true h]
  rfl
 have h3 : 0 ≤ n := by
  unfold okE at h
  omega
 unfold checkSpec
 rw [if_pos ⟨h2, h3⟩, if_pos (show apart [e] = true from rfl)]
theorem Net_l0 (a last : List S36) (ha : a.length ≤ 1000000) (hsa : ∀ x ∈ a, x.f1.size ≤ 1000000000) (hsl : ∀ x ∈ last, x.f1.size ≤ 1000000000) : ∀ (xs ys p q : List S36) (out : List S34), a = p ++ xs → last = q ++ ys → p.length = q.length → xs.length = ys.length → out.length ≤ p.length →
  Ev (fun k => merge_Net.l0 k last out a (a.length : Int) (p.length : Int)) (out ++ netS p.length xs ys, 0, 0, 0, 0) := by
 intro xs
 induction xs with
 | nil =>
  intro ys p q out h1 h2 h3 h4 h5
  have c : ¬ ((p.length : Int) < (a.length : Int)) := by rw [h1]; simp
  refine Ev.step (f := fun _ => some (out, 0, 0, 0, 0)) (fun k => by rw [merge_Net.l0, if_neg c]) ?_
  have e : netS p.length [] ys = [] := by cases ys <;> rfl
  rw [e, List.append_nil]
  exact Ev.now _
 | cons x xs ih =>
  intro ys p q out h1 h2 h3 h4 h5
  cases ys with
  | nil => simp at h4
  | cons y ys =>
   have hlen : a.length = p.length + 1 + xs.length := by rw [h1]; simp only [List.length_append, List.length_cons]; omega
   have hlen2 : last.length = q.length + 1 + ys.length := by rw [h2]; simp only [List.length_append, List.length_cons]; omega
   have q1 : (p.length : Int) < (a.length : Int) := by omega
   have q2 : (0 : Int) ≤ (p.length : Int) := Int.natCast_nonneg _
   have q3 : (p.length : Int) < (last.length : Int) := by omega
   have e1 : rd_T36 a (p.length : Int) = x := by rw [h1]; exact rd36 p x xs
   have e2 : rd_T36 last (p.length : Int) = y := by rw [h2, h3]; exact rd36 q y ys
   have s1 := hsa x (by rw [h1]; simp)
   have s2 := hsl y (by rw [h2]; simp)
   refine Ev.step (f := fun k => (merge_tight.f k x.f1 y.f1).bind fun bt138 => (if bt138.2.2.2 = true then ((edit_Check.f k ((x.f1).size : Int) (([(⟨bt138.1, bt138.2.1, bt138.2.2.1⟩ : S58)] : List (S58)))).bind fun t146 => (if t146 = 0 then (if out.length < 3518437208883 then (merge_Net.l0 k last (out ++ [(⟨(p.length : Int), bt138.1, bt138.2.1, bt138.2.2.1⟩ : S34)]) a (a.length : Int) (wrap64 ((p.length : Int) + 1))) else (none)) else (merge_Net.l0 k last out a (a.length : Int) (wrap64 ((p.length : Int) + 1))))) else (merge_Net.l0 k last out a (a.length : Int) (wrap64 ((p.length : Int) + 1))))) (fun k => by rw [merge_Net.l0, if_pos q1, if_pos q2, if_pos q1, if_pos q3, e1, e2]) ?_
   refine Ev.bind (f := fun k t => _) (tight_ev x.f1 y.f1 s1 s2) ?_
   rw [wsucc p.length (by omega)]
   unfold tightS netS
   by_cases c : x.f1 = y.f1
   ·rw [if_pos c, if_pos c]
    refine Ev.ite_neg (by decide) ?_
    have := ih ys (p ++ [x]) (q ++ [y]) out (by rw [h1, app36]) (by rw [h2, app36]) (by simp [h3]) (by simpa using h4) (by simp; omega)
    rw [List.length_append] at this
    exact this
   ·rw [if_neg c, if_neg c]
    refine Ev.ite_pos rfl ?_
    have p1 := suf_le x.f1 y.f1
    have hk := Check_ev (x.f1.size : Int) [(⟨(pre x.f1 y.f1 : Int), ((x.f1.size - suf x.f1 y.f1 : Nat) : Int), mid x.f1 y.f1⟩ : S58)] (by simp)
    rw [check_one _ _ ⟨Int.natCast_nonneg _, by show ((pre x.f1 y.f1 : Nat) : Int) ≤ ((x.f1.size - suf x.f1 y.f1 : Nat) : Int); omega, by show ((x.f1.size - suf x.f1 y.f1 : Nat) : Int) ≤ _; omega⟩] at hk
    refine Ev.bind (f := fun k t => _) hk (Ev.ite_pos rfl (Ev.ite_pos (by omega) ?_))
    have := ih ys (p ++ [x]) (q ++ [y]) (out ++ [tch p.length x.f1 y.f1]) (by rw [h1, app36]) (by rw [h2, app36]) (by simp [h3]) (by simpa using h4) (by simp; omega)
    rw [List.length_append, List.append_assoc] at this
    exact this
theorem Net_ev (a : List S36) (s : List (List S34)) (hs : s.length ≤ 1000000) (hL : ∀ L ∈ s, L.length ≤ 1000000) (n : Int) (hf : fits n a) (hn : n + txts s ≤ 1000000000) :
  Ev (fun k => merge_Net.f k a s) (if okT (eachS a s 0).2.2 then (netS 0 a (eachS a s 0).1, 0, 0, 0, 0) else ([], (eachS a s 0).2.1, (eachS a s 0).2.2)) := by
 unfold merge_Net.f
 refine Ev.bind (f := fun k t => _) (each_ev a s hs hL n hf hn) ?_
 by_cases c : okT (eachS a s 0).2.2
 ·rw [if_pos c]
  obtain ⟨h1, h2, h3⟩ := eachS_ok s a 0 n hf c
  have c' : (eachS a s 0).2.2 = (0, 0, 0) := c
  rw [c']
  refine Ev.ite_neg (by decide) ?_
  have h0 := txts_nonneg s
  have := Net_l0 a (eachS a s 0).1 (by have := hf.1; omega) (fun x hx => by have := hf.2 x hx; omega) (fun x hx => by have := h2.2 x hx; omega) a (eachS a s 0).1 [] [] [] rfl rfl rfl h1.symm (Nat.le_refl _)
  exact this
 ·rw [if_neg c]
  refine Ev.ite_pos ?_ (Ev.now _)
  have e : ((eachS a s 0).2.2.1 == 0) = false := beq_eq_false_iff_ne.mpr (eachS_bad s a 0 c).2
  rw [e]
  rfl
end Go.Proofs.Ytclcnglamlegiaa.Mg
namespace Go.Proofs.Ytclcnglamlegiaa.Mg
open Go Go.RowKit Go.Proofs.YtclcnglamlegiaaW.PrintWords Go.Proofs.YtclcnglamlegiaaW.PrintLast Go.Proofs.YtclcnglamlegiaaW.PrintMore Go.Proofs.Ytclcnglamlegiaa.PMD
open Go.Proofs.Ytclcnglamlegiaa.Trial (ofl eof)
set_option linter.unusedVariables false
set_option linter.unusedSimpArgs false
theorem mn_range (x c : Int) (h : 0 ≤ x) (hc : 0 ≤ c) : 0 ≤ mn x c ∧ mn x c ≤ c ∧ (mn x c < c → mn x c = x) := by unfold mn; split <;> omega
/-! ### few files -/
theorem few_l0 (l : List S36) (hl : l.length ≤ 9223372036854775807) : ∀ (r pre : List S36) (n : Int), l = pre ++ r → pre.length ≤ 5 → 0 ≤ n → n ≤ 10000 * pre.length →
  ∃ b, Ev (fun k => orielref10_Few.l0 k l n (pre.length : Int)) b ∧ (b = true → l.length ≤ 4 ∧ n ≤ 1500 ∧ ∀ x ∈ r, x.f1.size ≤ 1500) := by
 intro r
 induction r with
 | nil =>
  intro pre n he hp h0 hn
  simp only [List.append_nil] at he
  subst he
  have q1 : ¬ ((l.length : Int) < (l.length : Int)) := Int.lt_irrefl _
  by_cases h4 : (l.length : Int) ≤ 4
  ·refine ⟨decide (n ≤ 1500), Ev.step (f := fun _ => some (decide (n ≤ 1500))) (fun k => by rw [orielref10_Few.l0, if_neg q1, if_pos h4]) (Ev.now _), fun h => ?_⟩
   have := of_decide_eq_true h
   exact ⟨by omega, this, fun x hx => by cases hx⟩
  ·exact ⟨false, Ev.step (f := fun _ => some false) (fun k => by rw [orielref10_Few.l0, if_neg q1, if_neg h4]) (Ev.now _), fun h => by cases h⟩
 | cons x r ih =>
  intro pre n he hp h0 hn
  have hlen : l.length = pre.length + 1 + r.length := by rw [he]; simp only [List.length_append, List.length_cons]; omega
  have q1 : (pre.length : Int) < (l.length : Int) := by omega
  have hrd : rd_T36 l (pre.length : Int) = x := by rw [he]; exact rd36 pre x r
  by_cases h4 : (pre.length : Int) ≤ 4
  ·have q3 : (0 : Int) ≤ (pre.length : Int) := Int.natCast_nonneg _
   have m1 := mn_range (x.f1.size : Int) 5000 (Int.natCast_nonneg _) (by decide)
   have m2 := mn_range (x.f0.size : Int) 5000 (Int.natCast_nonneg _) (by decide)
   obtain ⟨u, hu⟩ : ∃ u, u = mn (x.f1.size : Int) 5000 := ⟨_, rfl⟩
   obtain ⟨v, hv⟩ : ∃ v, v = mn (x.f0.size : Int) 5000 := ⟨_, rfl⟩
   rw [← hu] at m1
   rw [← hv] at m2
   have w1 : wrap64 (n + u) = n + u := wid (by omega) (by omega)
   have w2 : wrap64 (n + u + v) = n + u + v := wid (by omega) (by omega)
   obtain ⟨b, hb1, hb2⟩ := ih (pre ++ [x]) (n + u + v) (by rw [he]; simp) (by simp; omega) (by omega) (by simp only [List.length_append, List.length_cons, List.length_nil]; omega)
   refine ⟨b, Ev.step (fun k => ?_) hb1, fun h => ?_⟩
   ·rw [orielref10_Few.l0, if_pos q1, if_pos h4, if_pos q3, hrd, ← hu, ← hv, w1, w2, wsucc pre.length (by omega), List.length_append]
    rfl
   ·obtain ⟨g1, g2, g3⟩ := hb2 h
    refine ⟨g1, by omega, fun y hy => ?_⟩
    rcases List.mem_cons.mp hy with rfl | hy
    ·have := m1.2.2 (by omega)
     omega
    ·exact g3 y hy
  ·have q4 : ¬ ((l.length : Int) ≤ 4) := by omega
   exact ⟨false, Ev.step (f := fun _ => some false) (fun k => by rw [orielref10_Few.l0, if_pos q1, if_neg h4, if_neg q4]) (Ev.now _), fun h => by cases h⟩
theorem few_ev (l : List S36) (hl : l.length ≤ 9223372036854775807) : ∃ b, Ev (fun k => orielref10_Few.f k l) b ∧ (b = true → fits 1500 l) := by
 obtain ⟨b, h1, h2⟩ := few_l0 l hl l [] 0 rfl (by decide) (Int.le_refl _) (by simp)
 exact ⟨b, h1, fun h => ⟨(h2 h).1, fun x hx => by have := (h2 h).2.2 x hx; omega⟩⟩
/-! ### few steps -/
def tmJ : Nat → List S34 → Int
 | _, [] => 0
 | j, x :: u => if j ≤ 40 then mn (x.f3.size : Int) 5000 + tmJ (j + 1) u else 0
theorem tmJ_range : ∀ (u : List S34) (j : Nat), 0 ≤ tmJ j u ∧ (j ≤ 41 → tmJ j u ≤ 5000 * (41 - j))
 | [], j => ⟨Int.le_refl _, fun h => by rw [tmJ]; omega⟩
 | x :: u, j => by
  have m := mn_range (x.f3.size : Int) 5000 (Int.natCast_nonneg _) (by decide)
  obtain ⟨h1, h2⟩ := tmJ_range u (j + 1)
  rw [tmJ]
  by_cases c : j ≤ 40
  ·rw [if_pos c]
   have := h2 (by omega)
   exact ⟨by omega, fun _ => by omega⟩
  ·rw [if_neg c]
   exact ⟨Int.le_refl _, fun _ => by omega⟩
theorem tmJ_txt : ∀ (u : List S34) (j : Nat), j + u.length ≤ 40 → tmJ j u < 5000 → tmJ j u = txt u
 | [], j, _, _ => rfl
 | x :: u, j, h, h5 => by
  rw [List.length_cons] at h
  have m := mn_range (x.f3.size : Int) 5000 (Int.natCast_nonneg _) (by decide)
  have h1 := (tmJ_range u (j + 1)).1
  rw [tmJ, if_pos (by omega)] at h5 ⊢
  have h2 := tmJ_txt u (j + 1) (by omega) (by omega)
  rw [h2, m.2.2 (by omega)]
  simp [txt]
theorem sfew_l1 (s : List (List S34)) (i : Nat) (hi : i < s.length) (hi6 : i ≤ 6) (L : List S34) (hL : rd_L4 s (i : Int) = L) (kk : Int) (b : Bool) : ∀ (u : List S34) (j : Nat) (n : Int), L.drop j = u → j ≤ 41 → 0 ≤ n → n ≤ 5000 * j + 10000000 →
  Ev (fun k => orielref35_Few.l0 k s (n + tmJ j u) kk (((i + 1 : Nat) : Int))) b → Ev (fun k => orielref35_Few.l1 k s n kk (i : Int) (j : Int)) b := by
 have q1 : (0 : Int) ≤ (i : Int) := Int.natCast_nonneg _
 have q2 : (i : Int) < (s.length : Int) := by omega
 intro u
 induction u with
 | nil =>
  intro j n h hj h0 hn H
  have hjl := List.drop_eq_nil_iff.mp h
  have q3 : ¬ ((j : Int) < (L.length : Int)) := by omega
  rw [tmJ, Int.add_zero] at H
  refine Ev.step (fun k => ?_) H
  rw [orielref35_Few.l1, if_pos q1, if_pos q2, hL, if_neg q3, wsucc i (by omega)]
 | cons x u ih =>
  intro j n h hj h0 hn H
  have hjl : j < L.length := by
   have := congrArg List.length h
   rw [List.length_drop, List.length_cons] at this
   omega
  have q3 : (j : Int) < (L.length : Int) := by omega
  rw [tmJ] at H
  by_cases c : j ≤ 40
  ·rw [if_pos c] at H
   have q4 : (j : Int) ≤ 40 := by omega
   have q5 : (0 : Int) ≤ (j : Int) := Int.natCast_nonneg _
   have e : rd_T34 L (j : Int) = x := by
    have := List.drop_eq_getElem_cons hjl
    rw [h] at this
    injection this with e _
    unfold rd_T34
    rw [List.getD_eq_getElem?_getD, Int.toNat_natCast, List.getElem?_eq_getElem hjl, ← e]
    rfl
   have m := mn_range (x.f3.size : Int) 5000 (Int.natCast_nonneg _) (by decide)
   refine Ev.step (fun k => ?_) (ih (j + 1) (n + mn (x.f3.size : Int) 5000) (drop_next h) (by omega) (by omega) (by omega) (by rw [Int.add_assoc]; exact H))
   rw [orielref35_Few.l1, if_pos q1, if_pos q2, hL, if_pos q3, if_pos q4, if_pos q5, e, wid (x := n + mn (x.f3.size : Int) 5000) (by omega) (by omega), wsucc j (by omega)]
  ·rw [if_neg c, Int.add_zero] at H
   have q4 : ¬ ((j : Int) ≤ 40) := by omega
   refine Ev.step (fun k => ?_) H
   rw [orielref35_Few.l1, if_pos q1, if_pos q2, hL, if_pos q3, if_neg q4, wsucc i (by omega)]
def tms : List (List S34) → Int
 | [] => 0
 | L :: r => tmJ 0 L + tms r
def kks : List (List S34) → Int
 | [] => 0
 | L :: r => mn (L.length : Int) 100 + kks r
theorem tms_nonneg : ∀ r, 0 ≤ tms r
 | [] => Int.le_refl _
 | L :: r => by have := tms_nonneg r; have := (tmJ_range L 0).1; rw [tms]; omega
theorem kks_nonneg : ∀ r, 0 ≤ kks r
 | [] => Int.le_refl _
 | L :: r => by have := kks_nonneg r; have := (mn_range (L.length : Int) 100 (Int.natCast_nonneg _) (by decide)).1; rw [kks]; omega
theorem sfew_l0 (s : List (List S34)) (hs : s.length ≤ 9223372036854775807) : ∀ (r pre : List (List S34)) (n kk : Int), s = pre ++ r → pre.length ≤ 7 → 0 ≤ n → n ≤ 205000 * pre.length → 0 ≤ kk → kk ≤ 100 * pre.length →
  ∃ b, Ev (fun k => orielref35_Few.l0 k s n kk (pre.length : Int)) b ∧ (b = true → s.length ≤ 6 ∧ n + tms r ≤ 600 ∧ kk + kks r ≤ 40) := by
 intro r
 induction r with
 | nil =>
  intro pre n kk he hp h0 hn k0 hk
  simp only [List.append_nil] at he
  subst he
  have q1 : ¬ ((s.length : Int) < (s.length : Int)) := Int.lt_irrefl _
  have hstep : ∀ k, orielref35_Few.l0 (k + 1) s n kk (s.length : Int) = orielref35_Few.j1 k s n kk (s.length : Int) false := fun k => by rw [orielref35_Few.l0, if_neg q1]
  have hf : ¬ (false = true) := by decide
  by_cases c6 : (s.length : Int) ≤ 6
  ·by_cases c : n ≤ 600
   ·refine ⟨decide (kk ≤ 40), Ev.step hstep (Ev.step (f := fun _ => some (decide (kk ≤ 40))) (fun k => by rw [orielref35_Few.j1, if_neg hf, if_pos c6, if_pos c]) (Ev.now _)), fun h => ?_⟩
    have := of_decide_eq_true h
    rw [tms, kks]
    exact ⟨by omega, by omega, by omega⟩
   ·exact ⟨false, Ev.step hstep (Ev.step (f := fun _ => some false) (fun k => by rw [orielref35_Few.j1, if_neg hf, if_pos c6, if_neg c]) (Ev.now _)), fun h => by cases h⟩
  ·exact ⟨false, Ev.step hstep (Ev.step (f := fun _ => some false) (fun k => by rw [orielref35_Few.j1, if_neg hf, if_neg c6]) (Ev.now _)), fun h => by cases h⟩
 | cons L r ih =>
  intro pre n kk he hp h0 hn k0 hk
  have hlen : s.length = pre.length + 1 + r.length := by rw [he]; simp only [List.length_append, List.length_cons]; omega
  have q1 : (pre.length : Int) < (s.length : Int) := by omega
  have hrd : rd_L4 s (pre.length : Int) = L := by rw [he]; exact rdL4 pre L r
  by_cases c6 : (pre.length : Int) ≤ 6
  ·have m := mn_range (L.length : Int) 100 (Int.natCast_nonneg _) (by decide)
   have tr := tmJ_range L 0
   have tr2 := tr.2 (by decide)
   obtain ⟨b, hb1, hb2⟩ := ih (pre ++ [L]) (n + tmJ 0 L) (kk + mn (L.length : Int) 100) (by rw [he]; simp) (by simp; omega) (by omega) (by simp only [List.length_append, List.length_cons, List.length_nil]; omega) (by omega) (by simp only [List.length_append, List.length_cons, List.length_nil]; omega)
   rw [List.length_append] at hb1
   have hl1 := sfew_l1 s pre.length (by omega) (by omega) L hrd (kk + mn (L.length : Int) 100) b L 0 n rfl (by decide) h0 (by omega) hb1
   refine ⟨b, Ev.step (f := fun k => orielref35_Few.j1 k s n kk (pre.length : Int) true) (fun k => by rw [orielref35_Few.l0, if_pos q1, decide_eq_true c6]) (Ev.step (fun k => ?_) hl1), fun h => ?_⟩
   ·rw [orielref35_Few.j1, if_pos rfl, if_pos (Int.natCast_nonneg _), if_pos q1, hrd, wid (x := kk + mn (L.length : Int) 100) (by omega) (by omega)]
    rfl
   ·obtain ⟨g1, g2, g3⟩ := hb2 h
    rw [tms, kks]
    exact ⟨g1, by omega, by omega⟩
  ·have q6 : ¬ ((s.length : Int) ≤ 6) := by omega
   have hf : ¬ (false = true) := by decide
   exact ⟨false, Ev.step (f := fun k => orielref35_Few.j1 k s n kk (pre.length : Int) false) (fun k => by rw [orielref35_Few.l0, if_pos q1, decide_eq_false c6]) (Ev.step (f := fun _ => some false) (fun k => by rw [orielref35_Few.j1, if_neg hf, if_neg q6]) (Ev.now _)), fun h => by cases h⟩
theorem kks_mem : ∀ (r : List (List S34)), kks r ≤ 40 → ∀ L ∈ r, L.length ≤ 40
 | [], _, L, h => by cases h
 | M :: r, hk, L, h => by
  have m := mn_range (M.length : Int) 100 (Int.natCast_nonneg _) (by decide)
  have k0 := kks_nonneg r
  rw [kks] at hk
  rcases List.mem_cons.mp h with rfl | h
  ·have := m.2.2 (by omega)
   omega
  ·exact kks_mem r (by omega) L h
theorem tms_txts : ∀ (r : List (List S34)), (∀ L ∈ r, L.length ≤ 40) → tms r ≤ 600 → txts r = tms r
 | [], _, _ => rfl
 | L :: r, h, ht => by
  have t0 := tms_nonneg r
  have t1 := (tmJ_range L 0).1
  rw [tms] at ht ⊢
  rw [txts_cons, tms_txts r (fun M hM => h M (List.mem_cons_of_mem _ hM)) (by omega)]
  have := h L List.mem_cons_self
  rw [tmJ_txt L 0 (by omega) (by omega)]
def sfits (s : List (List S34)) : Prop := s.length ≤ 6 ∧ (∀ L ∈ s, L.length ≤ 40) ∧ txts s ≤ 600
theorem sfew_ev (s : List (List S34)) (hs : s.length ≤ 9223372036854775807) : ∃ b, Ev (fun k => orielref35_Few.f k s) b ∧ (b = true → sfits s) := by
 obtain ⟨b, h1, h2⟩ := sfew_l0 s hs s [] 0 0 rfl (by decide) (Int.le_refl _) (by simp) (Int.le_refl _) (by simp)
 refine ⟨b, h1, fun h => ?_⟩
 obtain ⟨g1, g2, g3⟩ := h2 h
 have hm := kks_mem s (by omega)
 exact ⟨g1, hm, by rw [tms_txts s hm (by omega)]; omega⟩
/-! ### the same changes -/
theorem Changes_l0 (l : List S34) (hl : l.length ≤ 1000000) : ∀ (d i : Nat), i + d = l.length → Ev (fun k => orielref18_Changes.l0 k l l (i : Int)) true := by
 intro d
 induction d with
 | zero =>
  intro i h
  have q1 : ¬ ((i : Int) < (l.length : Int)) := by omega
  refine Ev.step (f := fun _ => some true) (fun k => ?_) (Ev.now _)
  rw [orielref18_Changes.l0, if_neg q1]
 | succ d ih =>
  intro i h
  have q1 : (i : Int) < (l.length : Int) := by omega
  have q2 : (0 : Int) ≤ (i : Int) := Int.natCast_nonneg _
  refine Ev.step (fun k => ?_) (ih (i + 1) (by omega))
  rw [orielref18_Changes.l0, if_pos q1, if_pos q2, if_pos q1, if_neg (by simp), wsucc i (by omega)]
theorem Changes_ev (l : List S34) (hl : l.length ≤ 1000000) : Ev (fun k => orielref18_Changes.f k l l) true := by
 unfold orielref18_Changes.f
 exact Ev.ite_pos rfl (Changes_l0 l hl l.length 0 (by omega))
/-! ### the example -/
def exF : List S36 := [(⟨(⟨#[97]⟩ : ByteArray), (⟨#[118, 97, 108, 32, 120, 32, 61, 32, 49]⟩ : ByteArray)⟩ : S36)]
def exS : List (List S34) := [([(⟨0, 4, 5, (⟨#[121]⟩ : ByteArray)⟩ : S34)] : List S34), ([(⟨0, 8, 9, (⟨#[50]⟩ : ByteArray)⟩ : S34)] : List S34)]
def exL : List S34 := [(⟨0, 4, 9, (⟨#[121, 32, 61, 32, 50]⟩ : ByteArray)⟩ : S34)]
theorem ex_ok : okT (eachS exF exS 0).2.2 := by decide +kernel
theorem ex_net : netS 0 exF (eachS exF exS 0).1 = exL := by kernel_rfl
theorem alive_ev : Ev (fun k => oriellaw35_alive.f k) true := by
 have h := Net_ev exF exS (by decide) (by decide) 9 (by unfold fits; decide) (by decide)
 rw [if_pos ex_ok, ex_net] at h
 unfold oriellaw35_alive.f
 refine Ev.bind (f := fun k t => _) h ?_
 refine Ev.ite_pos rfl (Ev.ite_pos (by decide) ?_)
 exact Ev.bind (f := fun k t => some t) (Changes_ev exL (by decide)) (Ev.now _)
end Go.Proofs.Ytclcnglamlegiaa.Mg
namespace Go.Proofs.Ytclcnglamlegiaa.Mg
open Go Go.RowKit Go.Proofs.YtclcnglamlegiaaW.PrintWords Go.Proofs.YtclcnglamlegiaaW.PrintLast Go.Proofs.YtclcnglamlegiaaW.PrintMore Go.Proofs.Ytclcnglamlegiaa.PMD
set_option linter.unusedVariables false
set_option linter.unusedSimpArgs false
theorem RCheck_l1 (l : List S58) (hl : l.length ≤ 9223372036854775807) : ∀ (r pre : List S58) (x : S58), l = pre ++ x :: r →
  Ev (fun k => orielref02_Check.l1 k l ((pre.length : Int) + 1)) (if apart (x :: r) = true then 0 else 3) := by
 intro r
 induction r with
 | nil =>
  intro pre x he
  refine Ev.step (f := fun _ => some 0) (fun k => ?_) (Ev.val (by simp [apart]))
  simp only [orielref02_Check.l1]
  rw [if_neg (by rw [he]; simp)]
 | cons y r ih =>
  intro pre x he
  have hlen : l.length = pre.length + 1 + 1 + r.length := by rw [he]; simp only [List.length_append, List.length_cons]; omega
  have e1 : rd_T58 l ((pre.length : Int) + 1) = y := by
   have := rd_mid (pre ++ [x]) y r
   rw [show (pre ++ [x]) ++ y :: r = l by rw [he]; simp, show (((pre ++ [x]).length : Nat) : Int) = (pre.length : Int) + 1 by simp] at this
   exact this
  have e2 : rd_T58 l (pre.length : Int) = x := by rw [he]; exact rd_mid pre x (y :: r)
  have e3 : wrap64 ((pre.length : Int) + 1 - 1) = (pre.length : Int) := by rw [wrap_id (by omega) (by omega)]; omega
  have e4 : wrap64 ((pre.length : Int) + 1 + 1) = (((pre ++ [x]).length : Nat) : Int) + 1 := by rw [wrap_id (by omega) (by omega)]; simp
  by_cases c : y.f0 ≤ x.f1
  ·refine Ev.step (f := fun _ => some 3) (fun k => ?_) (Ev.val (by simp [apart, show ¬ x.f1 < y.f0 by omega]))
   simp only [orielref02_Check.l1]
   rw [if_pos (by omega), if_pos (by omega), e3, if_pos (by omega), if_pos (by omega), e1, e2, if_pos c]
  ·have hi := ih (pre ++ [x]) y (by rw [he]; simp)
   rw [show apart (x :: y :: r) = apart (y :: r) by simp [apart, show x.f1 < y.f0 by omega]]
   refine Ev.step (fun k => ?_) hi
   simp only [orielref02_Check.l1]
   rw [if_pos (by omega), if_pos (by omega), e3, if_pos (by omega), if_pos (by omega), e1, e2, if_neg c, e4]
theorem RCheck_l1_all (l : List S58) (hl : l.length ≤ 9223372036854775807) : Ev (fun k => orielref02_Check.l1 k l 1) (if apart l = true then 0 else 3) := by
 cases l with
 | nil =>
  refine Ev.step (f := fun _ => some 0) (fun k => ?_) (Ev.val (by simp [apart]))
  simp only [orielref02_Check.l1]
  rw [if_neg (by simp)]
 | cons x r => exact RCheck_l1 (x :: r) hl r [] x rfl
theorem RCheck_l0 (n : Int) (hn : 0 ≤ n) (l : List S58) (hl : l.length ≤ 9223372036854775807) : ∀ (r pre : List S58), l = pre ++ r →
  Ev (fun k => orielref02_Check.l0 k n l (pre.length : Int)) (if allOk n r = true ∧ 0 ≤ n then (if apart l = true then 0 else 3) else 2) := by
 intro r
 induction r with
 | nil =>
  intro pre he
  have hp : pre.length = l.length := by rw [he]; simp
  rw [if_pos ⟨by simp [allOk], by omega⟩]
  refine Ev.step (fun k => ?_) (RCheck_l1_all l hl)
  simp only [orielref02_Check.l0]
  rw [if_neg (by omega)]
 | cons x r ih =>
  intro pre he
  have hlen : l.length = pre.length + 1 + r.length := by rw [he]; simp only [List.length_append, List.length_cons]; omega
  have e2 : rd_T58 l (pre.length : Int) = x := by rw [he]; exact rd_mid pre x r
  by_cases c : okE n x
  ·have hi := ih (pre ++ [x]) (by rw [he]; simp)
   rw [show allOk n (x :: r) = allOk n r by simp [allOk, c]]
   unfold okE at c
   refine Ev.step (fun k => ?_) hi
   simp only [orielref02_Check.l0]
   rw [if_pos (by omega), if_pos (by omega), e2, if_neg (by omega), if_neg (by omega), if_neg (by omega), wrap_id (by omega) (by omega)]
   simp
  ·refine Ev.step (f := fun _ => some 2) (fun k => ?_) (Ev.val (by simp [allOk, c]))
   unfold okE at c
   simp only [orielref02_Check.l0]
   rw [if_pos (by omega), if_pos (by omega), e2]
   by_cases c1 : x.f0 < 0
   ·rw [if_pos c1]
   ·rw [if_neg c1]
    by_cases c2 : x.f1 < x.f0
    ·rw [if_pos c2]
    ·rw [if_neg c2, if_pos (by omega)]
theorem RCheck_ev (n : Int) (l : List S58) (hl : l.length ≤ 9223372036854775807) : Ev (fun k => orielref02_Check.f k n l) (checkSpec n l) := by
 unfold orielref02_Check.f
 by_cases c : n < 0
 ·refine Ev.ite_pos c (Ev.val ?_)
  unfold checkSpec
  rw [if_neg (by omega)]
 ·exact Ev.ite_neg c (RCheck_l0 n (by omega) l hl l [] rfl)
def unt : List S58 → Int → Bool
 | [], _ => true
 | x :: r, i => !(decide (x.f0 ≤ i ∧ i < x.f1)) && unt r i
theorem taken_l0 (i : Int) (l : List S58) (hl : l.length ≤ 9223372036854775807) : ∀ (r pre : List S58), l = pre ++ r → ∃ v : Int, Ev (fun k => orielref02_taken.l0 k i l (pre.length : Int)) v ∧ (v < 0 ↔ unt r i = true) := by
 intro r
 induction r with
 | nil =>
  intro pre he
  refine ⟨-1, Ev.step (f := fun _ => some (-1)) (fun k => ?_) (Ev.now _), by simp [unt]⟩
  simp only [orielref02_taken.l0]
  rw [if_neg (by rw [he]; simp)]
 | cons x r ih =>
  intro pre he
  have hlen : l.length = pre.length + 1 + r.length := by rw [he]; simp only [List.length_append, List.length_cons]; omega
  have e2 : rd_T58 l (pre.length : Int) = x := by rw [he]; exact rd_mid pre x r
  by_cases c : x.f0 ≤ i ∧ i < x.f1
  ·refine ⟨(pre.length : Int), Ev.step (f := fun _ => some (pre.length : Int)) (fun k => ?_) (Ev.now _), ?_⟩
   ·simp only [orielref02_taken.l0]
    rw [if_pos (by omega), if_pos (by omega), e2, if_pos c.1, if_pos c.2]
   ·simp only [unt, c, and_self, decide_true, Bool.not_true, Bool.false_and]
    constructor
    ·intro h; omega
    ·intro h; cases h
  ·obtain ⟨v, hv, hv2⟩ := ih (pre ++ [x]) (by rw [he]; simp)
   refine ⟨v, ?_, ?_⟩
   ·refine Ev.step (fun k => ?_) hv
    simp only [orielref02_taken.l0]
    rw [if_pos (by omega), if_pos (by omega), e2, wrap_id (x := (pre.length : Int) + 1) (by omega) (by omega), show (((pre ++ [x]).length : Nat) : Int) = (pre.length : Int) + 1 by simp]
    by_cases d : x.f0 ≤ i
    ·rw [if_pos d, if_neg (by omega)]
    ·rw [if_neg d]
   ·rw [hv2]
    simp only [unt, c, decide_false, Bool.not_false, Bool.true_and]
theorem taken_ev (i : Int) (l : List S58) (hl : l.length ≤ 9223372036854775807) : ∃ v : Int, Ev (fun k => orielref02_taken.f k i l) v ∧ (v < 0 ↔ unt l i = true) := taken_l0 i l hl l [] rfl
theorem unt_late (i : Int) (l : List S58) (h : ∀ x ∈ l, i < x.f0) : unt l i = true := by
 induction l with
 | nil => rfl
 | cons x r ih =>
  have := h x List.mem_cons_self
  simp only [unt]
  rw [ih (fun y hy => h y (List.mem_cons_of_mem _ hy)), decide_eq_false (by omega)]
  rfl
/-! ### byte by byte -/
def insAt : List S58 → Int → List UInt8
 | [], _ => []
 | x :: r, i => (if x.f0 = i then bs x.f2 else []) ++ insAt r i
def stepA (S : List UInt8) (l : List S58) (i : Nat) : List UInt8 := insAt l i ++ (if i < S.length ∧ unt l i = true then (S.drop i).take 1 else [])
def refGo (S : List UInt8) (l : List S58) : Nat → Nat → List UInt8
 | _, 0 => []
 | i, d + 1 => stepA S l i ++ refGo S l (i + 1) d
theorem refGo_add (S : List UInt8) (l : List S58) (d e : Nat) : ∀ i, refGo S l i (d + e) = refGo S l i d ++ refGo S l (i + d) e := by
 induction d with
 | zero => intro i; simp [refGo]
 | succ d ih =>
  intro i
  rw [show d + 1 + e = (d + e) + 1 by omega]
  simp only [refGo, ih (i + 1), List.append_assoc]
  rw [show i + 1 + d = i + (d + 1) by omega]
theorem refGo_congr (S : List UInt8) (l r : List S58) (d : Nat) : ∀ i, (∀ j, i ≤ j → j < i + d → stepA S l j = stepA S r j) → refGo S l i d = refGo S r i d := by
 induction d with
 | zero => intro i _; rfl
 | succ d ih =>
  intro i h
  simp only [refGo]
  rw [h i (Nat.le_refl _) (by omega), ih (i + 1) (fun j h1 h2 => h j (by omega) (by omega))]
theorem refGo_keep (S : List UInt8) (l : List S58) (d : Nat) : ∀ i, i + d ≤ S.length → (∀ j : Nat, i ≤ j → j < i + d → insAt l j = [] ∧ unt l j = true) → refGo S l i d = (S.drop i).take d := by
 induction d with
 | zero => intro i _ _; simp [refGo]
 | succ d ih =>
  intro i hi h
  have h0 := h i (Nat.le_refl _) (by omega)
  simp only [refGo]
  rw [ih (i + 1) (by omega) (fun j h1 h2 => h j (by omega) (by omega))]
  unfold stepA
  rw [h0.1, if_pos ⟨by omega, h0.2⟩, List.nil_append]
  rw [show d + 1 = 1 + d by omega, List.take_add, List.drop_drop]
theorem refGo_none (S : List UInt8) (l : List S58) (d : Nat) : ∀ i, (∀ j : Nat, i ≤ j → j < i + d → stepA S l j = []) → refGo S l i d = [] := by
 induction d with
 | zero => intro i _; rfl
 | succ d ih =>
  intro i h
  simp only [refGo]
  rw [h i (Nat.le_refl _) (by omega), ih (i + 1) (fun j h1 h2 => h j (by omega) (by omega))]
  rfl
theorem insAt_late (i : Int) (l : List S58) (h : ∀ x ∈ l, i < x.f0) : insAt l i = [] := by
 induction l with
 | nil => rfl
 | cons x r ih =>
  have := h x List.mem_cons_self
  simp only [insAt]
  rw [if_neg (by omega), ih (fun y hy => h y (List.mem_cons_of_mem _ hy))]
  rfl
theorem insAt_len (i : Int) (l : List S58) : ((insAt l i).length : Int) ≤ sumSize l := by
 induction l with
 | nil => simp [insAt, sumSize]
 | cons x r ih =>
  simp only [insAt, sumSize, List.length_append]
  have := sumSize_nonneg r
  split
  ·rw [bs_len]; omega
  ·simp only [List.length_nil]; omega
def behind : Int → List S58 → Prop
 | _, [] => True
 | a, x :: r => a < x.f0 ∧ behind x.f1 r
theorem behind_of {l : List S58} (h : apart l = true) : ∀ x r, l = x :: r → behind x.f1 r := by
 induction l with
 | nil => intro x r e; cases e
 | cons y l ih =>
  intro x r e
  injection e with e1 e2
  subst e1 e2
  cases l with
  | nil => trivial
  | cons z l =>
   simp only [apart, Bool.and_eq_true, decide_eq_true_eq] at h
   exact ⟨by first | exact h.1 | omega, ih (by first | exact h.2 | simpa [apart] using h.2) z l rfl⟩
theorem behind_all {n : Int} {a : Int} {l : List S58} (hb : behind a l) (hc : Chain n a l) : ∀ x ∈ l, a < x.f0 := by
 induction l generalizing a with
 | nil => intro x hx; cases hx
 | cons y l ih =>
  intro x hx
  rcases List.mem_cons.mp hx with rfl | hx
  ·exact hb.1
  ·have := ih hb.2 hc.2.2.2 x hx
   have h1 := hc.2.2.1
   have h2 := hb.1
   omega
theorem refGo_app (S : List UInt8) (l : List S58) : ∀ a : Nat, Chain S.length a l → (∀ x r, l = x :: r → behind x.f1 r) → refGo S l a (S.length + 1 - a) = app S l a := by
 induction l with
 | nil =>
  intro a hc _
  obtain ⟨h0, h1⟩ := hc
  rw [show S.length + 1 - a = (S.length - a) + 1 by omega, refGo_add, refGo_keep S [] (S.length - a) a (by omega) (fun j _ _ => ⟨rfl, rfl⟩)]
  simp only [refGo, stepA, insAt, app]
  rw [if_neg (by omega), List.take_of_length_le (by rw [List.length_drop]; omega)]
  simp
 | cons x r ih =>
  intro a hc hb
  have hb' := hb x r rfl
  obtain ⟨h0, h1, h2, h3⟩ := hc
  have hle := h3.le
  obtain ⟨p, hp⟩ := Int.eq_ofNat_of_zero_le (show 0 ≤ x.f0 by omega)
  obtain ⟨e, he⟩ := Int.eq_ofNat_of_zero_le (show 0 ≤ x.f1 by omega)
  have far := behind_all hb' h3
  have hr : ∀ y r', r = y :: r' → behind y.f1 r' := fun y r' ey => by subst ey; exact hb'.2
  have ihr := ih e (by rw [← he]; exact h3) hr
  simp only [app]
  rw [hp, he]
  rw [hp] at h1 h2
  rw [he] at h2 far
  have k1 : refGo S (x :: r) a (p - a) = (S.drop a).take (p - a) := refGo_keep S (x :: r) (p - a) a (by omega) (fun j hj1 hj2 => by
   constructor
   ·exact insAt_late _ _ (fun y hy => by
     rcases List.mem_cons.mp hy with rfl | hy
     ·omega
     ·have := far y hy; omega)
   ·exact unt_late _ _ (fun y hy => by
     rcases List.mem_cons.mp hy with rfl | hy
     ·omega
     ·have := far y hy; omega))
  have hseg : seg S a p = (S.drop a).take (p - a) := by unfold seg; simp
  have step_at : stepA S (x :: r) p = bs x.f2 ++ (if p < S.length ∧ (!(decide ((p : Int) < e)) && unt r p) = true then (S.drop p).take 1 else []) := by
   unfold stepA
   simp only [insAt, unt, hp, he]
   rw [if_pos trivial, insAt_late (p : Int) r (fun y hy => by have := far y hy; omega), List.append_nil, show decide ((p : Int) ≤ (p : Int) ∧ (p : Int) < (e : Int)) = decide ((p : Int) < (e : Int)) by simp]
  have later : ∀ j : Nat, p < j → e ≤ j → stepA S (x :: r) j = stepA S r j := fun j hj1 hj2 => by
   unfold stepA
   simp only [insAt, unt, hp, he]
   rw [if_neg (by omega), List.nil_append, decide_eq_false (by omega)]
   simp
  by_cases c : e = p
  ·-- nothing is taken
   subst c
   have k2 : refGo S (x :: r) e (S.length + 1 - e) = bs x.f2 ++ refGo S r e (S.length + 1 - e) := by
    rw [show S.length + 1 - e = (S.length - e) + 1 by omega]
    simp only [refGo]
    rw [step_at, refGo_congr S (x :: r) r (S.length - e) (e + 1) (fun j hj1 hj2 => later j (by omega) (by omega))]
    have : stepA S r e = (if e < S.length ∧ (!(decide ((e : Int) < e)) && unt r e) = true then (S.drop e).take 1 else []) := by
     unfold stepA
     rw [insAt_late (e : Int) r far, List.nil_append]
     simp
    rw [this, List.append_assoc]
   rw [show S.length + 1 - a = (e - a) + (S.length + 1 - e) by omega, refGo_add, k1, show a + (e - a) = e by omega, k2, ihr, hseg, List.append_assoc]
  ·have k2 : refGo S (x :: r) p (e - p) = bs x.f2 := by
    rw [show e - p = (e - p - 1) + 1 by omega]
    simp only [refGo]
    rw [step_at, decide_eq_true (show (p : Int) < e by omega)]
    rw [refGo_none S (x :: r) (e - p - 1) (p + 1) (fun j hj1 hj2 => by
     unfold stepA
     simp only [insAt, unt, hp, he]
     rw [if_neg (by omega), insAt_late (j : Int) r (fun y hy => by have := far y hy; omega), decide_eq_true (show (p : Int) ≤ (j : Int) ∧ (j : Int) < e by omega)]
     simp)]
    simp
   have k3 : refGo S (x :: r) e (S.length + 1 - e) = refGo S r e (S.length + 1 - e) := refGo_congr S (x :: r) r _ e (fun j hj1 hj2 => later j (by omega) hj1)
   rw [show S.length + 1 - a = (p - a) + ((e - p) + (S.length + 1 - e)) by omega, refGo_add, k1, show a + (p - a) = p by omega, refGo_add, k2, show p + (e - p) = e by omega, k3, ihr, hseg, List.append_assoc]
theorem bs_append (a b : ByteArray) : bs (a ++ b) = bs a ++ bs b := by
 unfold bs
 rw [ByteArray.data_append, Array.toList_append]
theorem mk_append (A : List UInt8) (x : ByteArray) : (⟨A.toArray⟩ : ByteArray) ++ x = ⟨(A ++ bs x).toArray⟩ := by
 apply bs_inj
 rw [bs_append, bs_mk]
 exact (bs_mk (A ++ bs x)).symm
theorem mk_size (A : List UInt8) : (⟨A.toArray⟩ : ByteArray).size = A.length := by
 rw [← bs_len, bs_mk]
theorem RA_l1 (s : ByteArray) (l : List S58) (hl : l.length ≤ 1000) (i : Nat) (q : ByteArray × Int) : ∀ (r pre : List S58) (A : List UInt8), l = pre ++ r → (A.length : Int) + sumSize r ≤ 1000000000 →
  Ev (fun k => orielref02_Apply.l1 k s l ⟨(A ++ insAt r i).toArray⟩ (i : Int) (l.length : Int)) q → Ev (fun k => orielref02_Apply.l1 k s l ⟨A.toArray⟩ (i : Int) (pre.length : Int)) q := by
 intro r
 induction r with
 | nil =>
  intro pre A he hb hq
  rw [List.append_nil] at he
  subst he
  simp only [insAt, List.append_nil] at hq
  exact hq
 | cons x r ih =>
  intro pre A he hb hq
  have hlen : l.length = pre.length + 1 + r.length := by rw [he]; simp only [List.length_append, List.length_cons]; omega
  have e2 : rd_T58 l (pre.length : Int) = x := by rw [he]; exact rd_mid pre x r
  have hnn := sumSize_nonneg r
  simp only [sumSize] at hb
  simp only [insAt] at hq
  by_cases c : x.f0 = (i : Int)
  ·rw [if_pos c, ← List.append_assoc] at hq
   have hi := ih (pre ++ [x]) (A ++ bs x.f2) (by rw [he]; simp) (by rw [List.length_append, bs_len]; omega) hq
   rw [show (((pre ++ [x]).length : Nat) : Int) = (pre.length : Int) + 1 by simp] at hi
   refine Ev.step (fun k => ?_) hi
   simp only [orielref02_Apply.l1]
   rw [if_pos (by omega), if_pos (by omega), e2, if_pos c, mk_size, if_pos (by omega), mk_append, wrap_id (x := (pre.length : Int) + 1) (by omega) (by omega)]
  ·rw [if_neg c, List.nil_append] at hq
   have hi := ih (pre ++ [x]) A (by rw [he]; simp) (by omega) hq
   rw [show (((pre ++ [x]).length : Nat) : Int) = (pre.length : Int) + 1 by simp] at hi
   refine Ev.step (fun k => ?_) hi
   simp only [orielref02_Apply.l1]
   rw [if_pos (by omega), if_pos (by omega), e2, if_neg c, wrap_id (x := (pre.length : Int) + 1) (by omega) (by omega)]
theorem RA_l0 (s : ByteArray) (hs : s.size ≤ 10000) (l : List S58) (hl : l.length ≤ 1000) (hz : sumSize l ≤ 10000) : ∀ (d i : Nat) (A : List UInt8), i + d = s.size + 1 → A.length ≤ 20000 * i →
  Ev (fun k => orielref02_Apply.l0 k s l ⟨A.toArray⟩ (i : Int)) (⟨(A ++ refGo (bs s) l i d).toArray⟩, 0) := by
 intro d
 induction d with
 | zero =>
  intro i A hi hA
  refine Ev.step (f := fun _ => some (⟨A.toArray⟩, 0)) (fun k => ?_) (Ev.val (by simp [refGo]))
  simp only [orielref02_Apply.l0]
  rw [if_neg (by omega)]
 | succ d ih =>
  intro i A hi hA
  have hil := insAt_len (i : Int) l
  refine Ev.step (fun k => by simp only [orielref02_Apply.l0]; rw [if_pos (by omega)]) ?_
  refine RA_l1 s l hl i _ l [] A rfl (by omega) ?_
  obtain ⟨v, hv, hv2⟩ := taken_ev (i : Int) l (by omega)
  have hstep : ∀ B, stepA (bs s) l i = insAt l i ++ B → B.length ≤ 1 → Ev (fun k => orielref02_Apply.l0 k s l ⟨(A ++ insAt l i ++ B).toArray⟩ ((i : Int) + 1)) (⟨(A ++ refGo (bs s) l i (d + 1)).toArray⟩, 0) := fun B hB hB1 => by
   have := ih (i + 1) (A ++ insAt l i ++ B) (by omega) (by simp only [List.length_append]; omega)
   simp only [refGo]
   rw [hB, show A ++ (insAt l i ++ B ++ refGo (bs s) l (i + 1) d) = A ++ insAt l i ++ B ++ refGo (bs s) l (i + 1) d by simp [List.append_assoc], show (i : Int) + 1 = ((i + 1 : Nat) : Int) by omega]
   exact this
  by_cases c : i < s.size
  ·refine Ev.step (fun k => by simp only [orielref02_Apply.l1]; rw [if_neg (by omega), if_pos (by omega)]) ?_
   refine Ev.bind hv ?_
   by_cases cv : v < 0
   ·refine Ev.ite_pos cv ?_
    rw [wrap_id (x := (i : Int) + 1) (by omega) (by omega)]
    have hex : bs (s.extract (i : Int).toNat ((i : Int) + 1).toNat) = ((bs s).drop i).take 1 := by
     rw [bs_extract s (i : Int) ((i : Int) + 1) (by omega)]
     unfold seg
     rw [show ((i : Int)).toNat = i by omega, show ((i : Int) + 1).toNat - i = 1 by omega]
    have hsz : (s.extract (i : Int).toNat ((i : Int) + 1).toNat).size = 1 := by
     rw [← bs_len, hex, List.length_take, List.length_drop, bs_len]
     omega
    refine Ev.ite_pos (by omega) (Ev.ite_pos (by omega) (Ev.ite_pos (by omega) (Ev.ite_pos ?_ ?_)))
    ·rw [hsz, mk_size]
     simp only [List.length_append]
     omega
    ·rw [mk_append, hex]
     refine hstep _ ?_ (by rw [List.length_take]; omega)
     unfold stepA
     rw [if_pos ⟨by rw [bs_len]; exact c, hv2.mp cv⟩]
   ·refine Ev.ite_neg cv ?_
    rw [wrap_id (x := (i : Int) + 1) (by omega) (by omega)]
    have := hstep [] (by unfold stepA; rw [if_neg (fun h => cv (hv2.mpr h.2))]) (by simp)
    rw [List.append_nil] at this
    exact this
  ·refine Ev.step (fun k => by simp only [orielref02_Apply.l1]; rw [if_neg (by omega), if_neg (by omega), wrap_id (x := (i : Int) + 1) (by omega) (by omega)]) ?_
   have := hstep [] (by unfold stepA; rw [if_neg (fun h => c (by have := h.1; rw [bs_len] at this; exact this))]) (by simp)
   rw [List.append_nil] at this
   exact this
theorem RApply_ev (s : ByteArray) (hs : s.size ≤ 10000) (l : List S58) (hl : l.length ≤ 1000) (hz : sumSize l ≤ 10000) :
  Ev (fun k => orielref02_Apply.f k s l) (if checkSpec s.size l = 0 then (⟨(app (bs s) l 0).toArray⟩, 0) else (⟨#[]⟩, checkSpec s.size l)) := by
 unfold orielref02_Apply.f
 refine Ev.bind (RCheck_ev (s.size : Int) l (by omega)) ?_
 by_cases c : checkSpec s.size l = 0
 ·refine Ev.ite_pos c ?_
  rw [if_pos c]
  have h := RA_l0 s hs l hl hz (s.size + 1) 0 [] (by omega) (by simp)
  have h2 := refGo_app (bs s) l 0 (by rw [bs_len]; exact chain_zero c) (behind_of (check_zero c).2.2)
  rw [bs_len, Nat.sub_zero] at h2
  rw [h2, List.nil_append] at h
  exact h
 ·refine Ev.ite_neg c ?_
  rw [if_neg c]
  exact Ev.now _
/-! ### a file's own edits -/
open Go.Proofs.Ytclcnglamlegiaa.Trial (ofl eof)
theorem Of_l0 (L : List S34) (hL : L.length ≤ 1000000) (i : Int) : ∀ (r pre : List S34) (out : List S58), L = pre ++ r → out.length ≤ pre.length → Ev (fun k => orielref17_Of.l0 k i L out (pre.length : Int)) (out ++ ofl i r) := by
 intro r
 induction r with
 | nil =>
  intro pre out he ho
  have q1 : ¬ ((pre.length : Int) < (L.length : Int)) := by rw [he]; simp
  refine Ev.step (f := fun _ => some out) (fun k => by rw [orielref17_Of.l0, if_neg q1]) ?_
  show Ev _ (out ++ [])
  rw [List.append_nil]
  exact Ev.now _
 | cons x r ih =>
  intro pre out he ho
  have hlen : L.length = pre.length + 1 + r.length := by rw [he]; simp only [List.length_append, List.length_cons]; omega
  have hx : rd_T34 L (pre.length : Int) = x := by rw [he]; exact rd34 pre x r
  have q1 : (pre.length : Int) < (L.length : Int) := by omega
  have q2 : (0 : Int) ≤ (pre.length : Int) := Int.natCast_nonneg _
  have q3 : out.length < 4398046511104 := by omega
  by_cases c : x.f0 = i
  ·have e : ofl i (x :: r) = eof x :: ofl i r := by
    unfold ofl
    rw [List.filter_cons, if_pos (by simp [c])]
    rfl
   rw [e]
   have := ih (pre ++ [x]) (out ++ [eof x]) (by rw [he]; simp) (by simp; omega)
   rw [List.append_assoc, List.length_append] at this
   refine Ev.step (fun k => ?_) this
   rw [orielref17_Of.l0, if_pos q1, if_pos q2, hx, if_pos c, if_pos q3, wsucc pre.length (by omega)]
   rfl
  ·have e : ofl i (x :: r) = ofl i r := by
    unfold ofl
    rw [List.filter_cons, if_neg (by simpa using c)]
   rw [e]
   have := ih (pre ++ [x]) out (by rw [he]; simp) (by simp; omega)
   rw [List.length_append] at this
   refine Ev.step (fun k => ?_) this
   rw [orielref17_Of.l0, if_pos q1, if_pos q2, hx, if_neg c, wsucc pre.length (by omega)]
   rfl
theorem Of_ev (L : List S34) (hL : L.length ≤ 1000000) (i : Int) : Ev (fun k => orielref17_Of.f k i L) (ofl i L) := by
 have := Of_l0 L hL i L [] [] rfl (Nat.zero_le _)
 rw [List.nil_append] at this
 exact this
/-! ### the document's check -/
theorem TC_l2 (a : List S36) (L : List S34) (ha : a.length ≤ 1000000) (hL : L.length ≤ 1000000) : ∀ (r pre : List S36), a = pre ++ r → Ev (fun k => orielref17_Check.l2 k a L (pre.length : Int)) (chkS L pre.length r) := by
 intro r
 induction r with
 | nil =>
  intro pre he
  have q : ¬ ((pre.length : Int) < (a.length : Int)) := by rw [he]; simp
  exact Ev.step (f := fun _ => some (0, 0, 0)) (fun k => by rw [orielref17_Check.l2, if_neg q]) (Ev.now _)
 | cons x r ih =>
  intro pre he
  have hlen : a.length = pre.length + 1 + r.length := by rw [he]; simp only [List.length_append, List.length_cons]; omega
  have q1 : (pre.length : Int) < (a.length : Int) := by omega
  have q2 : (0 : Int) ≤ (pre.length : Int) := Int.natCast_nonneg _
  have e : rd_T36 a (pre.length : Int) = x := by rw [he]; exact rd36 pre x r
  have hi := ih (pre ++ [x]) (by rw [he, app36])
  rw [List.length_append] at hi
  refine Ev.step (f := fun k => (orielref17_Of.f k (pre.length : Int) L).bind fun t201 => ((orielref02_Check.f k ((x.f1).size : Int) t201).bind fun t204 => (if t204 = 0 then (orielref17_Check.l2 k a L (wrap64 ((pre.length : Int) + 1))) else (some (t204, (pre.length : Int), 0))))) (fun k => by rw [orielref17_Check.l2, if_pos q1, if_pos q2, e]) ?_
  refine Ev.bind (f := fun k t => _) (Of_ev L hL (pre.length : Int)) ?_
  refine Ev.bind (f := fun k t => _) (RCheck_ev (x.f1.size : Int) (ofl (pre.length : Int) L) (by have := ofl_le (pre.length : Int) L; omega)) ?_
  unfold chkS
  by_cases c : checkSpec (x.f1.size : Int) (ofl (pre.length : Int) L) = 0
  ·rw [if_pos c]
   refine Ev.ite_pos c ?_
   rw [wsucc pre.length (by omega)]
   exact hi
  ·rw [if_neg c]
   exact Ev.ite_neg c (Ev.now _)
theorem TC_l1 (a : List S36) (L : List S34) (hL : L.length ≤ 1000000) (R : Int × Int × Int) (H : Ev (fun k => orielref17_Check.l2 k a L 0) R) : ∀ (r pre : List S34) (x : S34), L = pre ++ x :: r →
  Ev (fun k => orielref17_Check.l1 k a L ((pre.length : Int) + 1)) (match badO (x :: r) with | some c => (3, c.f0, c.f1) | none => R) := by
 intro r
 induction r with
 | nil =>
  intro pre x he
  have q : ¬ ((pre.length : Int) + 1 < (L.length : Int)) := by rw [he]; simp
  refine Ev.step (fun k => ?_) H
  rw [orielref17_Check.l1, if_neg q]
 | cons y r ih =>
  intro pre x he
  have hlen : L.length = pre.length + 2 + r.length := by rw [he]; simp only [List.length_append, List.length_cons]; omega
  have q1 : (pre.length : Int) + 1 < (L.length : Int) := by omega
  have q2 : (0 : Int) ≤ (pre.length : Int) + 1 := by omega
  have w1 : wrap64 ((pre.length : Int) + 1 - 1) = (pre.length : Int) := by rw [wid (by omega) (by omega)]; omega
  have q4 : (0 : Int) ≤ (pre.length : Int) := Int.natCast_nonneg _
  have q5 : (pre.length : Int) < (L.length : Int) := by omega
  have e1 : rd_T34 L (pre.length : Int) = x := by rw [he]; exact rd34 pre x (y :: r)
  have e2 : rd_T34 L ((pre.length : Int) + 1) = y := by
   have := rd34 (pre ++ [x]) y r
   rw [List.append_assoc] at this
   rw [he]
   have e : ((pre ++ [x]).length : Int) = (pre.length : Int) + 1 := by simp
   rw [e] at this
   exact this
  have hi := ih (pre ++ [x]) y (by rw [he]; simp)
  have e3 : (((pre ++ [x]).length : Int)) + 1 = (pre.length : Int) + 1 + 1 := by simp
  rw [e3] at hi
  unfold badO
  by_cases c : y.f0 < x.f0
  ·rw [if_pos c]
   refine Ev.step (f := fun _ => some (3, y.f0, y.f1)) (fun k => ?_) (Ev.now _)
   rw [orielref17_Check.l1, w1, if_pos q1, if_pos q2, if_pos q4, if_pos q5, e1, e2, if_pos c]
  ·rw [if_neg c]
   refine Ev.step (fun k => ?_) hi
   rw [orielref17_Check.l1, w1, if_pos q1, if_pos q2, if_pos q4, if_pos q5, e1, e2, if_neg c, wid (x := (pre.length : Int) + 1 + 1) (by omega) (by omega)]
theorem TC_l1_all (a : List S36) (L : List S34) (ha : a.length ≤ 1000000) (hL : L.length ≤ 1000000) : Ev (fun k => orielref17_Check.l1 k a L 1) (ordS a L) := by
 have H := TC_l2 a L ha hL a [] rfl
 cases hl : L with
 | nil =>
  subst hl
  have q : ¬ ((1 : Int) < (([] : List S34).length : Int)) := by simp
  refine Ev.step (fun k => ?_) H
  rw [orielref17_Check.l1, if_neg q]
  rfl
 | cons x r =>
  have hi := TC_l1 a L hL (chkS L 0 a) H r [] x hl
  rw [← hl]
  have e : (match badO (x :: r) with | some c => (3, c.f0, c.f1) | none => (chkS L 0 a)) = ordS a L := by
   unfold ordS
   rw [← hl]
   all_goals (cases badO L <;> rfl)
  rw [e] at hi
  exact hi
theorem TC_l0 (a : List S36) (L : List S34) (ha : a.length ≤ 1000000) (hL : L.length ≤ 1000000) : ∀ (r pre : List S34), L = pre ++ r →
  Ev (fun k => orielref17_Check.l0 k a L (pre.length : Int)) (match badF a.length r with | some c => (2, c.f0, c.f1) | none => ordS a L) := by
 intro r
 induction r with
 | nil =>
  intro pre he
  rw [List.append_nil] at he
  subst he
  have q : ¬ ((L.length : Int) < (L.length : Int)) := Int.lt_irrefl _
  refine Ev.step (fun k => ?_) (TC_l1_all a L ha hL)
  rw [orielref17_Check.l0, if_neg q]
 | cons x r ih =>
  intro pre he
  have hlen : L.length = pre.length + 1 + r.length := by rw [he]; simp only [List.length_append, List.length_cons]; omega
  have q1 : (pre.length : Int) < (L.length : Int) := by omega
  have q2 : (0 : Int) ≤ (pre.length : Int) := Int.natCast_nonneg _
  have e : rd_T34 L (pre.length : Int) = x := by rw [he]; exact rd34 pre x r
  unfold badF
  by_cases c : x.f0 < 0
  ·rw [if_pos c]
   refine Ev.step (f := fun _ => some (2, x.f0, x.f1)) (fun k => ?_) (Ev.now _)
   rw [orielref17_Check.l0, if_pos q1, if_pos q2, e, if_pos c]
  ·rw [if_neg c]
   by_cases d : x.f0 ≥ (a.length : Int)
   ·rw [if_pos d]
    refine Ev.step (f := fun _ => some (2, x.f0, x.f1)) (fun k => ?_) (Ev.now _)
    rw [orielref17_Check.l0, if_pos q1, if_pos q2, e, if_neg c, if_pos d]
   ·rw [if_neg d]
    have hi := ih (pre ++ [x]) (by rw [he, app34])
    rw [List.length_append] at hi
    refine Ev.step (fun k => ?_) hi
    rw [orielref17_Check.l0, if_pos q1, if_pos q2, e, if_neg c, if_neg d, wsucc pre.length (by omega)]
    rfl
theorem TCheck_ev (a : List S36) (L : List S34) (ha : a.length ≤ 1000000) (hL : L.length ≤ 1000000) : Ev (fun k => orielref17_Check.f k a L) (fault a L) :=
 TC_l0 a L ha hL L [] rfl
/-! ### the document's files -/
theorem TA_l0 (a : List S36) (L : List S34) (hL : L.length ≤ 1000) (n : Int) (hf : fits n a) (hn : n ≤ 10000) (hz : txt L ≤ 10000) (h : okT (fault a L)) : ∀ (r pre : List S36) (ipre : List S36), a = ipre ++ r → pre.length = ipre.length →
  Ev (fun k => orielref17_Apply.l0 k a L (pre ++ r) (pre.length : Int)) (pre ++ edA L pre.length r, 0, 0, 0) := by
 intro r
 induction r with
 | nil =>
  intro pre ipre he hp
  have q : ¬ ((pre.length : Int) < ((pre ++ ([] : List S36)).length : Int)) := by simp
  exact Ev.step (f := fun _ => some (pre ++ ([] : List S36), 0, 0, 0)) (fun k => by rw [orielref17_Apply.l0, if_neg q]) (Ev.now _)
 | cons x r ih =>
  intro pre ipre he hp
  have hal := hf.1
  have hlen : a.length = ipre.length + 1 + r.length := by rw [he]; simp only [List.length_append, List.length_cons]; omega
  have q1 : (pre.length : Int) < (a.length : Int) := by omega
  have q2 : (0 : Int) ≤ (pre.length : Int) := Int.natCast_nonneg _
  have q3 : (pre.length : Int) < ((pre ++ x :: r).length : Int) := by simp only [List.length_append, List.length_cons]; omega
  have e1 : rd_T36 a (pre.length : Int) = x := by rw [he, hp]; exact rd36 ipre x r
  have e2 : rd_T36 (pre ++ x :: r) (pre.length : Int) = x := rd36 pre x r
  have hx : a[pre.length]? = some x := by rw [he, hp, List.getElem?_append_right (Nat.le_refl _), Nat.sub_self, List.getElem?_cons_zero]
  have hck := (fault_zero a L (by rw [h])).2.2.2 pre.length x hx
  have hsz := hf.2 x (List.mem_of_getElem? hx)
  have hz2 := ofl_size (pre.length : Int) L
  have hzl := ofl_le (pre.length : Int) L
  have hap := RApply_ev x.f1 (by omega) (ofl (pre.length : Int) L) (by omega) (by unfold txt at hz; omega)
  rw [if_pos hck] at hap
  have hset : (pre ++ x :: r).set ((pre.length : Int)).toNat (edF L pre.length x) = (pre ++ [edF L pre.length x]) ++ r := by
   rw [Int.toNat_natCast, List.set_append_right _ _ (Nat.le_refl _), Nat.sub_self, List.set_cons_zero, List.append_assoc]
   rfl
  have hi := ih (pre ++ [edF L pre.length x]) (ipre ++ [x]) (by rw [he, app36]) (by simp [hp])
  rw [List.length_append] at hi
  refine Ev.step (f := fun k => (orielref17_Of.f k (pre.length : Int) L).bind fun t223 => ((orielref02_Apply.f k x.f1 t223).bind fun bt226 => (orielref17_Apply.l0 k a L ((pre ++ x :: r).set ((pre.length : Int)).toNat (⟨x.f0, bt226.1⟩ : S36)) (wrap64 ((pre.length : Int) + 1))))) (fun k => by rw [orielref17_Apply.l0, if_pos q3, if_pos q2, if_pos q1, e1, e2]) ?_
  refine Ev.bind (f := fun k t => _) (Of_ev L (by omega) (pre.length : Int)) ?_
  refine Ev.bind (f := fun k t => _) hap ?_
  change Ev (fun k => orielref17_Apply.l0 k a L ((pre ++ x :: r).set ((pre.length : Int)).toNat (edF L pre.length x)) (wrap64 ((pre.length : Int) + 1))) _
  rw [hset, wsucc pre.length (by omega), edA]
  simp only [List.append_assoc, List.singleton_append] at hi ⊢
  exact hi
theorem TApply_ev (a : List S36) (L : List S34) (hL : L.length ≤ 1000) (n : Int) (hf : fits n a) (hn : n ≤ 10000) (hz : txt L ≤ 10000) :
  Ev (fun k => orielref17_Apply.f k a L) (if okT (fault a L) then (edA L 0 a, 0, 0, 0) else ([], fault a L)) := by
 have hal := hf.1
 unfold orielref17_Apply.f
 refine Ev.bind (f := fun k t => _) (TCheck_ev a L (by omega) (by omega)) ?_
 by_cases c : okT (fault a L)
 ·rw [if_pos c]
  have c' : fault a L = (0, 0, 0) := c
  rw [c']
  refine Ev.ite_neg (by decide) ?_
  simp only [Option.bind_some, List.nil_append, List.length_nil]
  refine Ev.ite_pos (by omega) ?_
  exact TA_l0 a L hL n hf hn hz c a [] [] rfl rfl
 ·rw [if_neg c]
  refine Ev.ite_pos ?_ (Ev.now _)
  have e : ((fault a L).1 == 0) = false := beq_eq_false_iff_ne.mpr (fault_ne a L c)
  rw [e]
  rfl
end Go.Proofs.Ytclcnglamlegiaa.Mg
namespace Go.Proofs.Ytclcnglamlegiaa.Mg
open Go Go.RowKit Go.Proofs.YtclcnglamlegiaaW.PrintWords Go.Proofs.YtclcnglamlegiaaW.PrintLast Go.Proofs.YtclcnglamlegiaaW.PrintMore Go.Proofs.Ytclcnglamlegiaa.PMD
open Go.Proofs.Ytclcnglamlegiaa.Trial (ofl eof)
set_option linter.unusedVariables false
set_option linter.unusedSimpArgs false
/-! ### steps, one list behind the other -/
def names (a : List S36) : List ByteArray := a.map fun x => x.f0
theorem edA_names (L : List S34) : ∀ (a : List S36) (i : Nat), names (edA L i a) = names a
 | [], i => rfl
 | x :: r, i => by
  have := edA_names L r (i + 1)
  unfold names at this ⊢
  rw [edA, List.map_cons, List.map_cons, this]
  rfl
theorem eachS_names : ∀ (s : List (List S34)) (a : List S36) (i : Nat), okT (eachS a s i).2.2 → names (eachS a s i).1 = names a
 | [], a, i, _ => rfl
 | L :: r, a, i, h => by
  unfold eachS at h ⊢
  by_cases c : okT (fault a L)
  ·rw [if_pos c] at h ⊢
   rw [eachS_names r (edA L 0 a) (i + 1) h, edA_names]
  ·rw [if_neg c] at h
   exact absurd h c
/-! ### the changes' own edits -/
theorem ofl_cons (i : Int) (x : S34) (r : List S34) : ofl i (x :: r) = if x.f0 = i then eof x :: ofl i r else ofl i r := by
 unfold ofl
 rw [List.filter_cons]
 by_cases c : x.f0 = i
 ·rw [if_pos (by simp [c]), if_pos c]
  rfl
 ·rw [if_neg (by simpa using c), if_neg c]
theorem ofl_late : ∀ (xs ys : List S36) (i : Nat) (j : Int), j < (i : Int) → ofl j (netS i xs ys) = []
 | [], ys, i, j, _ => by cases ys <;> rfl
 | _ :: _, [], i, j, _ => rfl
 | x :: xs, y :: ys, i, j, h => by
  unfold netS
  by_cases c : x.f1 = y.f1
  ·rw [if_pos c]
   exact ofl_late xs ys (i + 1) j (by omega)
  ·rw [if_neg c, ofl_cons, if_neg (show ¬ ((tch i x.f1 y.f1).f0 = j) from fun e => by have e2 : (i : Int) = j := e; omega)]
   exact ofl_late xs ys (i + 1) j (by omega)
theorem ofl_net : ∀ (xs ys : List S36) (i j : Nat) (x y : S36), xs[j]? = some x → ys[j]? = some y → ofl ((i + j : Nat) : Int) (netS i xs ys) = if x.f1 = y.f1 then [] else [eof (tch (i + j) x.f1 y.f1)]
 | [], ys, i, j, x, y, h, _ => by simp at h
 | _ :: _, [], i, j, x, y, _, h => by simp at h
 | x0 :: xs, y0 :: ys, i, 0, x, y, h1, h2 => by
  rw [List.getElem?_cons_zero] at h1 h2
  cases h1
  cases h2
  unfold netS
  by_cases c : x0.f1 = y0.f1
  ·rw [if_pos c, if_pos c]
   exact ofl_late xs ys (i + 1) _ (by omega)
  ·rw [if_neg c, if_neg c, ofl_cons, if_pos (show (tch i x0.f1 y0.f1).f0 = ((i + 0 : Nat) : Int) from rfl), ofl_late xs ys (i + 1) _ (by omega)]
   rfl
 | x0 :: xs, y0 :: ys, i, j + 1, x, y, h1, h2 => by
  rw [List.getElem?_cons_succ] at h1 h2
  have ih := ofl_net xs ys (i + 1) j x y h1 h2
  rw [show i + 1 + j = i + (j + 1) by omega] at ih
  unfold netS
  by_cases c : x0.f1 = y0.f1
  ·rw [if_pos c]
   exact ih
  ·rw [if_neg c, ofl_cons, if_neg (show ¬ ((tch i x0.f1 y0.f1).f0 = ((i + (j + 1) : Nat) : Int)) from fun e => by have e2 : (i : Int) = ((i + (j + 1) : Nat) : Int) := e; omega)]
   exact ih
/-! ### what they make of a text -/
theorem suf_tail (s t : ByteArray) : (bs s).drop (s.size - suf s t) = (bs t).drop (t.size - suf s t) := by
 have p1 := pre_le s t
 have p2 := suf_le s t
 obtain ⟨A, hA⟩ : ∃ A, A = (bs s).drop (pre s t) := ⟨_, rfl⟩
 obtain ⟨B, hB⟩ : ∃ B, B = (bs t).drop (pre s t) := ⟨_, rfl⟩
 have lA : A.length = s.size - pre s t := by rw [hA, List.length_drop, bs_len]
 have lB : B.length = t.size - pre s t := by rw [hB, List.length_drop, bs_len]
 have hm : suf s t = lcp A.reverse B.reverse := by rw [hA, hB]; rfl
 have htl : A.drop (A.length - suf s t) = B.drop (B.length - suf s t) := by
  have := lcp_take A.reverse B.reverse
  rw [← hm, List.take_reverse, List.take_reverse] at this
  exact List.reverse_inj.mp this
 have e1 : s.size - suf s t = pre s t + (A.length - suf s t) := by omega
 have e2 : t.size - suf s t = pre s t + (B.length - suf s t) := by omega
 rw [e1, e2, ← List.drop_drop, ← List.drop_drop, ← hA, ← hB, htl]
theorem app_tch (s t : ByteArray) (j : Nat) : app (bs s) [eof (tch j s t)] 0 = bs t := by
 have p1 := pre_le s t
 have p2 := suf_le s t
 show seg (bs s) 0 ((pre s t : Nat) : Int) ++ bs (mid s t) ++ app (bs s) [] ((s.size - suf s t : Nat) : Int) = bs t
 have e1 : seg (bs s) 0 ((pre s t : Nat) : Int) = (bs t).take (pre s t) := by
  unfold seg
  rw [Int.toNat_natCast]
  show ((bs s).drop 0).take (pre s t - 0) = _
  rw [List.drop_zero, Nat.sub_zero]
  exact lcp_take (bs s) (bs t)
 have e2 : bs (mid s t) = ((bs t).drop (pre s t)).take (t.size - suf s t - pre s t) := bs_mid t (pre s t) (t.size - suf s t) (by omega)
 have e3 : app (bs s) [] ((s.size - suf s t : Nat) : Int) = (bs t).drop (t.size - suf s t) := by
  rw [← suf_tail s t]
  unfold app
  rw [Int.toNat_natCast]
 have e4 : (bs t).drop (t.size - suf s t) = ((bs t).drop (pre s t)).drop (t.size - suf s t - pre s t) := by
  rw [List.drop_drop, show pre s t + (t.size - suf s t - pre s t) = t.size - suf s t by omega]
 rw [e1, e2, e3, e4, List.append_assoc, List.take_append_drop, List.take_append_drop]
theorem app_none (S : List UInt8) : app S [] 0 = S := by
 unfold app
 show S.drop 0 = S
 rw [List.drop_zero]
theorem ofl_app (x y : S36) (l : List S58) (j : Nat) (h : l = if x.f1 = y.f1 then [] else [eof (tch j x.f1 y.f1)]) : checkSpec (x.f1.size : Int) l = 0 ∧ app (bs x.f1) l 0 = bs y.f1 := by
 by_cases c : x.f1 = y.f1
 ·rw [if_pos c] at h
  subst h
  refine ⟨?_, by rw [app_none, c]⟩
  unfold checkSpec
  rw [if_pos ⟨rfl, Int.natCast_nonneg _⟩, if_pos (show apart [] = true from rfl)]
 ·rw [if_neg c] at h
  subst h
  have p2 := suf_le x.f1 y.f1
  refine ⟨check_one _ _ ⟨Int.natCast_nonneg _, ?_, ?_⟩, app_tch x.f1 y.f1 j⟩
  ·show ((pre x.f1 y.f1 : Nat) : Int) ≤ ((x.f1.size - suf x.f1 y.f1 : Nat) : Int)
   omega
  ·show ((x.f1.size - suf x.f1 y.f1 : Nat) : Int) ≤ (x.f1.size : Int)
   omega
/-! ### they are right, and make the files -/
theorem net_in (n : Nat) : ∀ (xs ys : List S36) (i : Nat), i + xs.length ≤ n → badF n (netS i xs ys) = none
 | [], ys, i, _ => by cases ys <;> rfl
 | _ :: _, [], i, _ => rfl
 | x :: xs, y :: ys, i, h => by
  rw [List.length_cons] at h
  have ih := net_in n xs ys (i + 1) (by omega)
  unfold netS
  by_cases c : x.f1 = y.f1
  ·rw [if_pos c]
   exact ih
  ·rw [if_neg c]
   unfold badF
   rw [if_neg (show ¬ ((tch i x.f1 y.f1).f0 < 0) from fun e => by have e2 : (i : Int) < 0 := e; omega), if_neg (show ¬ ((tch i x.f1 y.f1).f0 ≥ (n : Int)) from fun e => by have e2 : (i : Int) ≥ (n : Int) := e; omega)]
   exact ih
theorem net_first : ∀ (xs ys : List S36) (i : Nat), ∀ c r, netS i xs ys = c :: r → (i : Int) ≤ c.f0
 | [], ys, i, c, r, h => by cases ys <;> cases h
 | _ :: _, [], i, c, r, h => by cases h
 | x :: xs, y :: ys, i, c, r, h => by
  unfold netS at h
  by_cases e : x.f1 = y.f1
  ·rw [if_pos e] at h
   have := net_first xs ys (i + 1) c r h
   omega
  ·rw [if_neg e] at h
   injection h with h1 _
   rw [← h1]
   exact Int.le_refl _
theorem net_ord : ∀ (xs ys : List S36) (i : Nat), badO (netS i xs ys) = none
 | [], ys, i => by cases ys <;> rfl
 | _ :: _, [], i => rfl
 | x :: xs, y :: ys, i => by
  have ih := net_ord xs ys (i + 1)
  unfold netS
  by_cases c : x.f1 = y.f1
  ·rw [if_pos c]
   exact ih
  ·rw [if_neg c]
   cases hr : netS (i + 1) xs ys with
   | nil => rfl
   | cons d r =>
    have := net_first xs ys (i + 1) d r hr
    unfold badO
    rw [if_neg (show ¬ (d.f0 < (tch i x.f1 y.f1).f0) from fun e => by have e2 : d.f0 < (i : Int) := e; omega), ← hr]
    exact ih
theorem chk_all (L : List S34) : ∀ (a : List S36) (i : Nat), (∀ (j : Nat) (x : S36), a[j]? = some x → checkSpec (x.f1.size : Int) (ofl ((i + j : Nat) : Int) L) = 0) → chkS L i a = (0, 0, 0)
 | [], i, _ => rfl
 | x :: r, i, h => by
  unfold chkS
  rw [if_pos (by have := h 0 x rfl; rwa [Nat.add_zero] at this)]
  refine chk_all L r (i + 1) (fun j y hy => ?_)
  have := h (j + 1) y (by rw [List.getElem?_cons_succ]; exact hy)
  rwa [show i + (j + 1) = i + 1 + j by omega] at this
theorem net_right (a b : List S36) (hl : a.length = b.length) : okT (fault a (netS 0 a b)) := by
 unfold okT fault
 rw [net_in a.length a b 0 (by omega)]
 show ordS a (netS 0 a b) = _
 unfold ordS
 rw [net_ord a b 0]
 refine chk_all _ a 0 (fun j x hx => ?_)
 obtain ⟨y, hy⟩ : ∃ y, b[j]? = some y := by
  have hj := (List.getElem?_eq_some_iff.mp hx).1
  exact ⟨b[j]'(by omega), List.getElem?_eq_getElem (by omega)⟩
 exact (ofl_app x y _ (0 + j) (ofl_net a b 0 j x y hx hy)).1
theorem net_makes (a b : List S36) (hl : a.length = b.length) (hn : names a = names b) : edA (netS 0 a b) 0 a = b := by
 refine List.ext_getElem? (fun j => ?_)
 rw [edA_get]
 cases hx : a[j]? with
 | none =>
  rw [List.getElem?_eq_none_iff] at hx
  rw [Option.map_none, List.getElem?_eq_none (by omega)]
 | some x =>
  have hj := (List.getElem?_eq_some_iff.mp hx).1
  obtain ⟨y, hy⟩ : ∃ y, b[j]? = some y := ⟨b[j]'(by omega), List.getElem?_eq_getElem (by omega)⟩
  rw [hy, Option.map_some]
  congr 1
  have h1 := (ofl_app x y _ (0 + j) (ofl_net a b 0 j x y hx hy)).2
  have h2 : x.f0 = y.f0 := by
   have := congrArg (fun l => l[j]?) hn
   simp only [names, List.getElem?_map, hx, hy, Option.map_some, Option.some.injEq] at this
   exact this
  have h3 : edF (netS 0 a b) (0 + j) x = (⟨x.f0, (⟨(app (bs x.f1) (ofl ((0 + j : Nat) : Int) (netS 0 a b)) 0).toArray⟩ : ByteArray)⟩ : S36) := rfl
  rw [h3, h1, h2]
  have h4 : (⟨(bs y.f1).toArray⟩ : ByteArray) = y.f1 := bs_inj (bs_mk _)
  rw [h4]
theorem net_txt (N : Nat) : ∀ (xs ys : List S36) (i : Nat), (∀ y ∈ ys, y.f1.size ≤ N) → txt (netS i xs ys) ≤ N * xs.length
 | [], ys, i, _ => by cases ys <;> exact Int.le_refl _
 | x :: xs, [], i, _ => by
  show (0 : Int) ≤ _
  exact Int.mul_nonneg (Int.natCast_nonneg _) (Int.natCast_nonneg _)
 | x :: xs, y :: ys, i, h => by
  have ih := net_txt N xs ys (i + 1) (fun z hz => h z (List.mem_cons_of_mem _ hz))
  have hy := h y List.mem_cons_self
  have e : (N : Int) * ((x :: xs).length : Int) = N * (xs.length : Int) + N := by rw [List.length_cons, Int.natCast_add, Int.mul_add]; simp
  rw [e]
  unfold netS
  by_cases c : x.f1 = y.f1
  ·rw [if_pos c]
   omega
  ·rw [if_neg c]
   have p2 := suf_le x.f1 y.f1
   have hm : (mid x.f1 y.f1).size ≤ N := by
    rw [← bs_len, mid, bs_mid _ _ _ (by omega), List.length_take, List.length_drop, bs_len]
    omega
   have e2 : txt (tch i x.f1 y.f1 :: netS (i + 1) xs ys) = ((mid x.f1 y.f1).size : Int) + txt (netS (i + 1) xs ys) := by
    unfold txt
    rw [List.map_cons, List.sum_cons]
    rfl
   rw [e2]
   omega
theorem net_len' : ∀ (xs ys : List S36) (i : Nat), (netS i xs ys).length ≤ xs.length
 | [], ys, i => by cases ys <;> exact Nat.zero_le _
 | _ :: _, [], i => Nat.zero_le _
 | x :: xs, y :: ys, i => by
  have := net_len' xs ys (i + 1)
  unfold netS
  split <;> simp only [List.length_cons] <;> omega
end Go.Proofs.Ytclcnglamlegiaa.Mg
namespace Go.Proofs.Ytclcnglamlegiaa.Mg
open Go Go.RowKit Go.Proofs.YtclcnglamlegiaaW.PrintWords Go.Proofs.YtclcnglamlegiaaW.PrintLast Go.Proofs.YtclcnglamlegiaaW.PrintMore Go.Proofs.Ytclcnglamlegiaa.PMD
set_option linter.unusedVariables false
set_option linter.unusedSimpArgs false
def statesS : List S36 → List (List S34) → List (List S36)
 | _, [] => []
 | a, L :: r => edA L 0 a :: statesS (edA L 0 a) r
def aheadS : List S36 → List (List S34) → List (List S36)
 | _, [] => []
 | a, L :: r => a :: aheadS (edA L 0 a) r
theorem statesS_len : ∀ (s : List (List S34)) (a : List S36), (statesS a s).length = s.length
 | [], a => rfl
 | L :: r, a => by rw [statesS, List.length_cons, List.length_cons, statesS_len r]
theorem aheadS_len : ∀ (s : List (List S34)) (a : List S36), (aheadS a s).length = s.length
 | [], a => rfl
 | L :: r, a => by rw [aheadS, List.length_cons, List.length_cons, aheadS_len r]
theorem states_ahead : ∀ (s : List (List S34)) (a : List S36) (i : Nat), s ≠ [] → okT (eachS a s i).2.2 → statesS a s = (aheadS a s).drop 1 ++ [(eachS a s i).1]
 | [], a, i, h, _ => absurd rfl h
 | [L], a, i, _, h => by
  unfold eachS at h ⊢
  by_cases c : okT (fault a L)
  ·rw [if_pos c]
   rfl
  ·rw [if_neg c] at h
   exact absurd h c
 | L :: M :: r, a, i, _, h => by
  rw [eachS] at h ⊢
  by_cases c : okT (fault a L)
  ·rw [if_pos c] at h ⊢
   have ih := states_ahead (M :: r) (edA L 0 a) (i + 1) (by simp) h
   rw [statesS, ih]
   rfl
  ·rw [if_neg c] at h
   exact absurd h c
def repS (a : List S36) (s : List (List S34)) (i : Nat) : List (List S36) × Int × Int × Int × Int := if okT (eachS a s i).2.2 then (statesS a s, 0, 0, 0, 0) else ([], (eachS a s i).2.1, (eachS a s i).2.2)
theorem RReplay_l0 (s : List (List S34)) (hs : s.length ≤ 1000) (hL : ∀ L ∈ s, L.length ≤ 1000) : ∀ (r pre : List (List S34)) (a : List S36) (n : Int) (out : List (List S36)), s = pre ++ r → fits n a → 0 ≤ n → n + txts r ≤ 10000 → out.length ≤ pre.length →
  Ev (fun k => orielref35_Replay.l0 k a s out (pre.length : Int)) (if okT (eachS a r pre.length).2.2 then (out ++ statesS a r, 0, 0, 0, 0) else ([], (eachS a r pre.length).2.1, (eachS a r pre.length).2.2)) := by
 intro r
 induction r with
 | nil =>
  intro pre a n out he hf h0 hn ho
  have q : ¬ ((pre.length : Int) < (s.length : Int)) := by rw [he]; simp
  rw [eachS, if_pos (show okT ((0 : Int), (0 : Int), (0 : Int)) from rfl), statesS, List.append_nil]
  exact Ev.step (f := fun _ => some (out, 0, 0, 0, 0)) (fun k => by rw [orielref35_Replay.l0, if_neg q]) (Ev.now _)
 | cons L r ih =>
  intro pre a n out he hf h0 hn ho
  have hlen : s.length = pre.length + 1 + r.length := by rw [he]; simp only [List.length_append, List.length_cons]; omega
  have q1 : (pre.length : Int) < (s.length : Int) := by omega
  have q2 : (0 : Int) ≤ (pre.length : Int) := Int.natCast_nonneg _
  have e : rd_L4 s (pre.length : Int) = L := by rw [he]; exact rdL4 pre L r
  rw [txts_cons] at hn
  have h1 := txts_nonneg r
  have h2 := txt_nonneg L
  have hap := TApply_ev a L (hL L (by rw [he]; simp)) n hf (by omega) (by omega)
  refine Ev.step (f := fun k => (orielref17_Apply.f k a L).bind fun bt232 => (if (!(bt232.2.1 == 0) || (!(bt232.2.2.1 == 0) || (!(bt232.2.2.2 == 0)))) = true then (some (([] : List (List (S36))), (pre.length : Int), bt232.2.1, bt232.2.2.1, bt232.2.2.2)) else (if out.length < 5864062014805 then (orielref35_Replay.l0 k bt232.1 s (out ++ [bt232.1]) (wrap64 ((pre.length : Int) + 1))) else (none)))) (fun k => by rw [orielref35_Replay.l0, if_pos q1, if_pos q2, e]) ?_
  refine Ev.bind (f := fun k t => _) hap ?_
  rw [eachS, statesS]
  by_cases c : okT (fault a L)
  ·rw [if_pos c, if_pos c]
   refine Ev.ite_neg (show ¬ ((!((0 : Int) == 0) || (!((0 : Int) == 0) || (!((0 : Int) == 0)))) = true) by decide) ?_
   refine Ev.ite_pos (by omega) ?_
   have hi := ih (pre ++ [L]) (edA L 0 a) (n + txt L) (out ++ [edA L 0 a]) (by rw [he]; simp) (edA_fits a L n c hf) (by omega) (by omega) (by simp; omega)
   rw [List.length_append, List.append_assoc] at hi
   rw [wsucc pre.length (by omega)]
   exact hi
  ·rw [if_neg c, if_neg c, if_neg (show ¬ okT (([] : List S36), (pre.length : Int), fault a L).2.2 from c)]
   refine Ev.ite_pos ?_ (Ev.now _)
   have e : ((fault a L).1 == 0) = false := beq_eq_false_iff_ne.mpr (fault_ne a L c)
   show (!((fault a L).1 == 0) || _) = true
   rw [e]
   rfl
theorem RReplay_ev (a : List S36) (s : List (List S34)) (hs : s.length ≤ 1000) (hL : ∀ L ∈ s, L.length ≤ 1000) (n : Int) (hf : fits n a) (h0 : 0 ≤ n) (hn : n + txts s ≤ 10000) : Ev (fun k => orielref35_Replay.f k a s) (repS a s 0) :=
 RReplay_l0 s hs hL s [] a n [] rfl hf h0 hn (Nat.le_refl _)
theorem TFiles_l0 (l : List S36) (hl : l.length ≤ 1000000) : ∀ (d i : Nat), i + d = l.length → Ev (fun k => orielref17_Files.l0 k l l (i : Int)) true := by
 intro d
 induction d with
 | zero =>
  intro i h
  have q1 : ¬ ((i : Int) < (l.length : Int)) := by omega
  refine Ev.step (f := fun _ => some true) (fun k => ?_) (Ev.now _)
  rw [orielref17_Files.l0, if_neg q1]
 | succ d ih =>
  intro i h
  have q1 : (i : Int) < (l.length : Int) := by omega
  have q2 : (0 : Int) ≤ (i : Int) := Int.natCast_nonneg _
  refine Ev.step (fun k => ?_) (ih (i + 1) (by omega))
  rw [orielref17_Files.l0, if_pos q1, if_pos q2, if_pos q1, if_neg (by simp), wsucc i (by omega)]
theorem TFiles_ev (l : List S36) (hl : l.length ≤ 1000000) : Ev (fun k => orielref17_Files.f k l l) true := by
 unfold orielref17_Files.f
 exact Ev.ite_pos rfl (TFiles_l0 l hl l.length 0 (by omega))
theorem states_last (s : List (List S34)) (a : List S36) (h : s ≠ []) (c : okT (eachS a s 0).2.2) : rd_L7 (statesS a s) (((s.length - 1 : Nat)) : Int) = (eachS a s 0).1 := by
 have hl : s.length ≠ 0 := fun e => h (List.length_eq_zero_iff.mp e)
 unfold rd_L7
 rw [states_ahead s a 0 h c, Int.toNat_natCast, List.getD_eq_getElem?_getD, List.getElem?_append_right (by rw [List.length_drop, aheadS_len]; omega), List.length_drop, aheadS_len, Nat.sub_self]
 rfl
end Go.Proofs.Ytclcnglamlegiaa.Mg
namespace Go.Proofs.Ytclcnglamlegiaa.Mg
open Go Go.RowKit Go.Proofs.YtclcnglamlegiaaW.PrintWords Go.Proofs.YtclcnglamlegiaaW.PrintLast Go.Proofs.YtclcnglamlegiaaW.PrintMore Go.Proofs.Ytclcnglamlegiaa.PMD
set_option linter.unusedVariables false
set_option linter.unusedSimpArgs false
def back (s : ByteArray) : List S58 → Int → List S58
 | [], _ => []
 | x :: r, m => (⟨x.f0 + m, x.f0 + m + x.f2.size, s.extract x.f0.toNat x.f1.toNat⟩ : S58) :: back s r (m + (x.f2.size - (x.f1 - x.f0)))
theorem back_len (s : ByteArray) (l : List S58) (m : Int) : (back s l m).length = l.length := by
 induction l generalizing m with
 | nil => rfl
 | cons x r ih => simp [back, ih]
theorem Back_l0 (s : ByteArray) (hs : (s.size : Int) ≤ 1000000000) (l : List S58) (hl : l.length ≤ 100) (hz : sumSize l ≤ 1000000000) : ∀ (r pre : List S58) (out : List S58) (m a : Int), l = pre ++ r → Chain s.size a r →
  -2000000000 ≤ m → m + sumSize r ≤ 1000000000 → -(s.size : Int) ≤ m - (s.size - a) → out.length = pre.length →
  Ev (fun k => edit_Back.l0 k s out m l (l.length : Int) (pre.length : Int)) (out ++ back s r m, 0) := by
 intro r
 induction r with
 | nil =>
  intro pre out m a he hc _ _ _ _
  refine Ev.step (f := fun _ => some (out, 0)) (fun k => ?_) (Ev.val (by simp [back]))
  simp only [edit_Back.l0]
  rw [if_neg (by rw [he]; simp)]
 | cons x r ih =>
  intro pre out m a he hc hm1 hm2 hm3 hol
  obtain ⟨h0, h1, h2, h3⟩ := hc
  have h4 := h3.le
  simp only [sumSize] at hm2
  have h5 := sumSize_nonneg r
  have hlen : l.length = pre.length + 1 + r.length := by rw [he]; simp only [List.length_append, List.length_cons]; omega
  have hi := ih (pre ++ [x]) (out ++ [(⟨x.f0 + m, x.f0 + m + x.f2.size, s.extract x.f0.toNat x.f1.toNat⟩ : S58)]) (m + (x.f2.size - (x.f1 - x.f0))) x.f1 (by rw [he]; simp) h3 (by omega) (by omega) (by omega) (by simp [hol])
  have e2 : rd_T58 l (pre.length : Int) = x := by rw [he]; exact rd_mid pre x r
  rw [show out ++ back s (x :: r) m = out ++ [(⟨x.f0 + m, x.f0 + m + x.f2.size, s.extract x.f0.toNat x.f1.toNat⟩ : S58)] ++ back s r (m + (x.f2.size - (x.f1 - x.f0))) by simp [back]]
  refine Ev.step (fun k => ?_) hi
  simp only [edit_Back.l0]
  rw [if_pos (by omega), if_pos (by omega), if_pos (by omega), e2, if_pos (by omega), if_pos (by omega), if_pos (by omega), if_pos (by omega)]
  rw [wrap_id (x := x.f0 + m) (by omega) (by omega), wrap_id (x := x.f0 + m + x.f2.size) (by omega) (by omega), wrap_id (x := x.f1 - x.f0) (by omega) (by omega), wrap_id (x := (x.f2.size : Int) - (x.f1 - x.f0)) (by omega) (by omega), wrap_id (x := m + ((x.f2.size : Int) - (x.f1 - x.f0))) (by omega) (by omega), wrap_id (x := (pre.length : Int) + 1) (by omega) (by omega)]
  simp
theorem Back_ev (s : ByteArray) (hs : (s.size : Int) ≤ 1000000000) (l : List S58) (hl : l.length ≤ 100) (hz : sumSize l ≤ 1000000000) :
  Ev (fun k => edit_Back.f k s l) (if checkSpec s.size l = 0 then (back s l 0, 0) else ([], checkSpec s.size l)) := by
 unfold edit_Back.f
 refine Ev.bind (Check_ev (s.size : Int) l (by omega)) ?_
 by_cases c : checkSpec s.size l = 0
 ·refine Ev.ite_pos c ?_
  rw [if_pos c]
  have := Back_l0 s hs l hl hz l [] [] 0 0 rfl (chain_zero c) (by omega) (by omega) (by omega) rfl
  simpa using this
 ·refine Ev.ite_neg c ?_
  rw [if_neg c]
  exact Ev.now _
theorem app_back (s : ByteArray) (l : List S58) : ∀ (a m : Int) (pre T : List UInt8), Chain s.size a l → T = pre ++ app (bs s) l a → (pre.length : Int) = a + m →
  app T (back s l m) (a + m) = (bs s).drop a.toNat := by
 induction l with
 | nil =>
  intro a m pre T hc hT hp
  simp only [app, back] at *
  rw [hT, ← hp, show ((pre.length : Int)).toNat = pre.length by simp, List.drop_left]
 | cons x r ih =>
  intro a m pre T hc hT hp
  obtain ⟨h0, h1, h2, h3⟩ := hc
  have h4 := h3.le
  have hsl : (seg (bs s) a x.f0).length = x.f0.toNat - a.toNat := seg_len _ _ _ (by rw [bs_len]; omega)
  have hi := ih x.f1 (m + (x.f2.size - (x.f1 - x.f0))) (pre ++ seg (bs s) a x.f0 ++ bs x.f2) T h3 (by rw [hT]; simp [app, List.append_assoc]) (by
   rw [List.length_append, List.length_append, hsl, bs_len]
   omega)
  show seg T (a + m) (x.f0 + m) ++ bs (s.extract x.f0.toNat x.f1.toNat) ++ app T (back s r (m + (x.f2.size - (x.f1 - x.f0)))) (x.f0 + m + x.f2.size) = _
  rw [show x.f0 + m + (x.f2.size : Int) = x.f1 + (m + (x.f2.size - (x.f1 - x.f0))) by omega, hi, bs_extract s x.f0 x.f1 (by omega)]
  have e1 : seg T (a + m) (x.f0 + m) = seg (bs s) a x.f0 := by
   unfold seg at *
   rw [hT, ← hp, show ((pre.length : Int)).toNat = pre.length by simp, List.drop_left]
   simp only [app]
   rw [List.append_assoc, show (x.f0 + m).toNat - pre.length = (List.take (x.f0.toNat - a.toNat) (List.drop a.toNat (bs s))).length by rw [hsl]; omega]
   exact List.take_left
  rw [e1, List.append_assoc, seg_drop (bs s) x.f0 x.f1 (by omega) h2, seg_drop (bs s) a x.f0 h0 h1]
theorem back_ok (s : ByteArray) (l : List S58) : ∀ (a m : Int) (pre T : List UInt8), Chain s.size a l → T = pre ++ app (bs s) l a → (pre.length : Int) = a + m → allOk T.length (back s l m) = true := by
 induction l with
 | nil => intro a m pre T _ _ _; rfl
 | cons x r ih =>
  intro a m pre T hc hT hp
  obtain ⟨h0, h1, h2, h3⟩ := hc
  have h4 := h3.le
  have hsl : (seg (bs s) a x.f0).length = x.f0.toNat - a.toNat := seg_len _ _ _ (by rw [bs_len]; omega)
  have hi := ih x.f1 (m + (x.f2.size - (x.f1 - x.f0))) (pre ++ seg (bs s) a x.f0 ++ bs x.f2) T h3 (by rw [hT]; simp [app, List.append_assoc]) (by
   rw [List.length_append, List.length_append, hsl, bs_len]
   omega)
  simp only [back, allOk, hi, Bool.and_true, decide_eq_true_eq]
  have hTl : T.length = pre.length + (x.f0.toNat - a.toNat) + x.f2.size + (app (bs s) r x.f1).length := by
   rw [hT]
   simp only [app, List.length_append, hsl, bs_len]
   omega
  refine ⟨?_, ?_, ?_⟩ <;> dsimp only <;> omega
theorem back_apart (s : ByteArray) (l : List S58) : ∀ m : Int, apart l = true → apart (back s l m) = true := by
 induction l with
 | nil => intro m _; rfl
 | cons x r ih =>
  intro m h
  cases r with
  | nil => rfl
  | cons y r =>
   simp only [apart, Bool.and_eq_true, decide_eq_true_eq] at h
   have hi := ih (m + (x.f2.size - (x.f1 - x.f0))) h.2
   simp only [back, apart, Bool.and_eq_true, decide_eq_true_eq] at hi ⊢
   exact ⟨by omega, hi⟩
theorem back_size (s : ByteArray) (l : List S58) : ∀ a m : Int, Chain s.size a l → sumSize (back s l m) ≤ s.size - a := by
 induction l with
 | nil =>
  intro a m hc
  have := hc.le
  simp only [back, sumSize]
  omega
 | cons x r ih =>
  intro a m hc
  obtain ⟨h0, h1, h2, h3⟩ := hc
  have h4 := h3.le
  have := ih x.f1 (m + (x.f2.size - (x.f1 - x.f0))) h3
  simp only [back, sumSize, ByteArray.size_extract]
  omega
end Go.Proofs.Ytclcnglamlegiaa.Mg
namespace Go.Proofs.Ytclcnglamlegiaa.Mg
open Go Go.RowKit Go.Proofs.YtclcnglamlegiaaW.PrintWords Go.Proofs.YtclcnglamlegiaaW.PrintLast Go.Proofs.YtclcnglamlegiaaW.PrintMore Go.Proofs.Ytclcnglamlegiaa.PMD
open Go.Proofs.Ytclcnglamlegiaa.Trial (ofl eof)
set_option linter.unusedVariables false
set_option linter.unusedSimpArgs false
def chg (i : Nat) (e : S58) : S34 := ⟨(i : Int), e.f0, e.f1, e.f2⟩
def backA (L : List S34) : Nat → List S36 → List S34
 | _, [] => []
 | i, x :: r => (back x.f1 (ofl (i : Int) L) 0).map (chg i) ++ backA L (i + 1) r
theorem TBack_l1 (L : List S34) (a : List S36) (i : Nat) (es : List S58) (hes : es.length ≤ 1000000) (R : List S34 × Int × Int × Int) : ∀ (r pre : List S58) (out : List S34), es = pre ++ r → out.length + r.length ≤ 1000000000 →
  Ev (fun k => Trial.trial_Back.l0 k L (out ++ r.map (chg i)) a (a.length : Int) (wrap64 ((i : Int) + 1))) R →
  Ev (fun k => Trial.trial_Back.l1 k L out (i : Int) a (a.length : Int) (i : Int) es (es.length : Int) (pre.length : Int)) R := by
 intro r
 induction r with
 | nil =>
  intro pre out he ho H
  have q : ¬ ((pre.length : Int) < (es.length : Int)) := by rw [he]; simp
  rw [List.map_nil, List.append_nil] at H
  exact Ev.step (fun k => by rw [Trial.trial_Back.l1, if_neg q]) H
 | cons e r ih =>
  intro pre out he ho H
  rw [List.length_cons] at ho
  have hlen : es.length = pre.length + 1 + r.length := by rw [he]; simp only [List.length_append, List.length_cons]; omega
  have q1 : (pre.length : Int) < (es.length : Int) := by omega
  have q2 : (0 : Int) ≤ (pre.length : Int) := Int.natCast_nonneg _
  have hrd : rd_T58 es (pre.length : Int) = e := by rw [he]; exact rd_mid pre e r
  have hi := ih (pre ++ [e]) (out ++ [chg i e]) (by rw [he]; simp) (by simp; omega) (by rw [List.append_assoc]; exact H)
  rw [List.length_append] at hi
  refine Ev.step (fun k => ?_) hi
  rw [Trial.trial_Back.l1, if_pos q1, if_pos q2, if_pos q1, if_pos (show out.length < 3518437208883 by omega), hrd, wsucc pre.length (by omega)]
  rfl
theorem TBack_l0 (L : List S34) (hL : L.length ≤ 100) (hz : txt L ≤ 1000000000) (a : List S36) (ha : a.length ≤ 1000) (hs : ∀ x ∈ a, (x.f1.size : Int) ≤ 1000000000) (hok : ∀ (j : Nat) (x : S36), a[j]? = some x → checkSpec (x.f1.size : Int) (ofl (j : Int) L) = 0) : ∀ (r pre : List S36) (out : List S34), a = pre ++ r → out.length ≤ 100 * pre.length →
  Ev (fun k => Trial.trial_Back.l0 k L out a (a.length : Int) (pre.length : Int)) (out ++ backA L pre.length r, 0, 0, 0) := by
 intro r
 induction r with
 | nil =>
  intro pre out he ho
  have q : ¬ ((pre.length : Int) < (a.length : Int)) := by rw [he]; simp
  rw [backA, List.append_nil]
  exact Ev.step (f := fun _ => some (out, 0, 0, 0)) (fun k => by rw [Trial.trial_Back.l0, if_neg q]) (Ev.now _)
 | cons x r ih =>
  intro pre out he ho
  have hlen : a.length = pre.length + 1 + r.length := by rw [he]; simp only [List.length_append, List.length_cons]; omega
  have q1 : (pre.length : Int) < (a.length : Int) := by omega
  have q2 : (0 : Int) ≤ (pre.length : Int) := Int.natCast_nonneg _
  have hrd : rd_T36 a (pre.length : Int) = x := by rw [he]; exact rd36 pre x r
  have hx : a[pre.length]? = some x := by rw [he, List.getElem?_append_right (Nat.le_refl _), Nat.sub_self]; rfl
  have hc := hok pre.length x hx
  have hol := ofl_le (pre.length : Int) L
  have hB := Back_ev x.f1 (hs x (by rw [he]; simp)) (ofl (pre.length : Int) L) (by omega) (by have := ofl_size (pre.length : Int) L; unfold txt at hz; omega)
  rw [if_pos hc] at hB
  have hbl := back_len x.f1 (ofl (pre.length : Int) L) 0
  have hi := ih (pre ++ [x]) (out ++ (back x.f1 (ofl (pre.length : Int) L) 0).map (chg pre.length)) (by rw [he]; simp) (by rw [List.length_append, List.length_map, hbl, List.length_append, List.length_singleton]; omega)
  rw [List.length_append, List.length_singleton, List.append_assoc] at hi
  refine Ev.step (f := fun k => (edit_Back.f k x.f1 (ofl (pre.length : Int) L)).bind fun bt143 => (Trial.trial_Back.l1 k L out (pre.length : Int) a (a.length : Int) (pre.length : Int) bt143.1 (bt143.1.length : Int) 0)) (fun k => by rw [Trial.trial_Back.l0, if_pos q1, if_pos q2, if_pos q1, hrd]) ?_
  refine Ev.bind (f := fun k t => _) hB ?_
  refine TBack_l1 L a pre.length _ (by rw [hbl]; omega) _ _ [] out rfl (by rw [hbl]; omega) ?_
  rw [wsucc pre.length (by omega)]
  exact hi
theorem TBack_ev (a : List S36) (L : List S34) (hL : L.length ≤ 100) (hz : txt L ≤ 1000000000) (ha : a.length ≤ 1000) (hs : ∀ x ∈ a, (x.f1.size : Int) ≤ 1000000000) (h : okT (fault a L)) : Ev (fun k => Trial.trial_Back.f k a L) (backA L 0 a, 0, 0, 0) := by
 refine Ev.congr (f := fun k => (Trial.trial_edits.f k a L).bind fun bt136 => (if (!(bt136.2.1 == 0) || (!(bt136.2.2.1 == 0) || (!(bt136.2.2.2 == 0)))) = true then (some (([] : List (S34)), bt136.2.1, bt136.2.2.1, bt136.2.2.2)) else (Trial.trial_Back.l0 k L ([] : List (S34)) a (a.length : Int) 0))) (fun k => ?_) ?_
 ·show (if a.length ≤ 1000000 ∧ L.length ≤ 1000000 then _ else none) = _
  rw [if_pos ⟨by omega, by omega⟩]
 refine Ev.bind (f := fun k t => _) (edits_ev a L (by omega) (by omega)) ?_
 have c' : fault a L = (0, 0, 0) := h
 rw [c']
 refine Ev.ite_neg (by decide) ?_
 have := TBack_l0 L hL hz a ha hs (fault_zero a L (by rw [c'])).2.2.2 a [] [] rfl (Nat.zero_le _)
 rw [List.nil_append] at this
 exact this
def bksS : List S36 → List (List S34) → List (List S34)
 | _, [] => []
 | a, L :: r => if okT (fault a L) then backA L 0 a :: bksS (edA L 0 a) r else []
theorem bks_ev : ∀ (s : List (List S34)) (a : List S36) (n : Int), (∀ L ∈ s, L.length ≤ 100) → fits n a → n + txts s ≤ 1000000000 → Ev (fun k => Undo.bks k a s) (bksS a s)
 | [], a, n, _, _, _ => Ev.now _
 | L :: r, a, n, hL, hf, hn => by
  have h1 := txts_nonneg r
  have h2 := txt_nonneg L
  rw [txts_cons] at hn
  have hLl := hL L (by simp)
  have hap := Apply_ev' a L (by omega) n hf (by omega)
  unfold Undo.bks bksS
  refine Ev.bind (f := fun k t => _) hap ?_
  by_cases c : okT (fault a L)
  ·rw [if_pos c, if_pos c]
   refine Ev.ite_neg (show ¬ ((!((0 : Int) == 0) || (!((0 : Int) == 0) || (!((0 : Int) == 0)))) = true) by decide) ?_
   have hn0 : ∀ x ∈ a, (x.f1.size : Int) ≤ 1000000000 := fun x hx => by have := hf.2 x hx; omega
   refine Ev.bind (f := fun k t => _) (TBack_ev a L hLl (by
    rcases Decidable.em (a = []) with e | e
    ·subst e
     have : L = [] := by
      cases L with
      | nil => rfl
      | cons y t =>
       have := (fault_zero [] (y :: t) (by rw [show fault [] (y :: t) = (0, 0, 0) from c])).2.1 y (by simp)
       unfold inF at this
       simp only [List.length_nil] at this
       omega
     subst this
     exact (show (0 : Int) ≤ 1000000000 by decide)
    ·obtain ⟨x, hx⟩ := List.exists_mem_of_ne_nil a e
     have := hf.2 x hx
     omega) (by have := hf.1; omega) hn0 c) ?_
   have ih := bks_ev r (edA L 0 a) (n + txt L) (fun M hM => hL M (by simp [hM])) (edA_fits a L n c hf) (by omega)
   exact Ev.bind (f := fun k q => some (backA L 0 a :: q)) ih (Ev.now _)
  ·rw [if_neg c, if_neg c]
   refine Ev.ite_pos ?_ (Ev.now _)
   have e : ((fault a L).1 == 0) = false := beq_eq_false_iff_ne.mpr (fault_ne a L c)
   show (!((fault a L).1 == 0) || _) = true
   rw [e]
   rfl
def undoS (a : List S36) (s : List (List S34)) : List (List S34) × Int × Int × Int × Int := if okT (eachS a s 0).2.2 then ((bksS a s).reverse, 0, 0, 0, 0) else ([], (eachS a s 0).2.1, (eachS a s 0).2.2)
theorem Undo_ev (a : List S36) (s : List (List S34)) (hs : s.length ≤ 1000000) (hL : ∀ L ∈ s, L.length ≤ 100) (n : Int) (hf : fits n a) (hn : n + txts s ≤ 1000000000) : Ev (fun k => merge_Undo.f k a s) (undoS a s) := by
 refine Ev.congr (f := fun k => (merge_each.f k a s).bind fun t => (Undo.bks k a s).bind fun out => if (!(t.2.2.1 == 0) || (!(t.2.2.2.1 == 0) || (!(t.2.2.2.2 == 0)))) = true then some ([], t.2.1, t.2.2.1, t.2.2.2.1, t.2.2.2.2) else some (out.reverse, 0, 0, 0, 0)) (fun k => ?_) ?_
 ·show (if s.length ≤ 1000000 then _ else none) = _
  rw [if_pos hs]
 refine Ev.bind (f := fun k t => _) (each_ev a s hs (fun L h => by have := hL L h; omega) n hf hn) ?_
 refine Ev.bind (f := fun k t => _) (bks_ev s a n hL hf hn) ?_
 unfold undoS
 by_cases c : okT (eachS a s 0).2.2
 ·rw [if_pos c]
  have c' : (eachS a s 0).2.2 = (0, 0, 0) := c
  rw [c']
  exact Ev.ite_neg (by decide) (Ev.now _)
 ·rw [if_neg c]
  refine Ev.ite_pos ?_ (Ev.now _)
  have e : ((eachS a s 0).2.2.1 == 0) = false := beq_eq_false_iff_ne.mpr (eachS_bad s a 0 c).2
  rw [e]
  rfl
/-! ### it turns back -/
theorem ofl_map (j : Int) (i : Nat) : ∀ (l : List S58) (M : List S34), ofl j (l.map (chg i) ++ M) = (if (i : Int) = j then l else []) ++ ofl j M
 | [], M => by simp
 | e :: l, M => by
  rw [List.map_cons, List.cons_append, ofl_cons, ofl_map j i l M]
  by_cases c : (i : Int) = j
  ·rw [if_pos (show (chg i e).f0 = j from c), if_pos c, if_pos c]
   rfl
  ·rw [if_neg (show ¬ ((chg i e).f0 = j) from c), if_neg c, if_neg c]
theorem ofl_backA_late (L : List S34) : ∀ (a : List S36) (i : Nat) (j : Int), j < (i : Int) → ofl j (backA L i a) = []
 | [], i, j, _ => rfl
 | x :: r, i, j, h => by rw [backA, ofl_map, if_neg (by omega), ofl_backA_late L r (i + 1) j (by omega)]; rfl
theorem ofl_backA (L : List S34) : ∀ (a : List S36) (i j : Nat) (x : S36), a[j]? = some x → ofl ((i + j : Nat) : Int) (backA L i a) = back x.f1 (ofl ((i + j : Nat) : Int) L) 0
 | [], i, j, x, h => by cases h
 | y :: r, i, 0, x, h => by
  rw [List.getElem?_cons_zero] at h
  injection h with h
  subst h
  rw [backA, ofl_map, if_pos (by simp), Nat.add_zero, ofl_backA_late L r (i + 1) (i : Int) (by omega), List.append_nil]
 | y :: r, i, j + 1, x, h => by
  rw [List.getElem?_cons_succ] at h
  rw [backA, ofl_map, if_neg (by omega), List.nil_append, show i + (j + 1) = i + 1 + j by omega]
  exact ofl_backA L r (i + 1) j x h
theorem badF_app (n : Nat) : ∀ (M K : List S34), (∀ x ∈ M, inF n x) → badF n K = none → badF n (M ++ K) = none
 | [], K, _, h => h
 | x :: M, K, hM, h => by
  have hx := hM x (by simp)
  unfold inF at hx
  rw [List.cons_append]
  unfold badF
  rw [if_neg (by omega), if_neg (by omega)]
  exact badF_app n M K (fun y hy => hM y (by simp [hy])) h
theorem back_in (L : List S34) (n : Nat) : ∀ (a : List S36) (i : Nat), i + a.length ≤ n → badF n (backA L i a) = none
 | [], i, _ => rfl
 | x :: r, i, h => by
  rw [List.length_cons] at h
  rw [backA]
  refine badF_app n _ _ (fun y hy => ?_) (back_in L n r (i + 1) (by omega))
  obtain ⟨e, _, rfl⟩ := List.mem_map.mp hy
  exact ⟨Int.natCast_nonneg _, by show (i : Int) < (n : Int); omega⟩
theorem back_first (L : List S34) : ∀ (a : List S36) (i : Nat), ∀ c ∈ backA L i a, (i : Int) ≤ c.f0
 | [], i, c, h => by cases h
 | x :: r, i, c, h => by
  rw [backA] at h
  rcases List.mem_append.mp h with h | h
  ·obtain ⟨e, _, rfl⟩ := List.mem_map.mp h
   exact Int.le_refl _
  ·have := back_first L r (i + 1) c h
   omega
theorem badO_app (i : Nat) : ∀ (l : List S58) (M : List S34), (∀ c ∈ M, (i : Int) ≤ c.f0) → badO M = none → badO (l.map (chg i) ++ M) = none
 | [], M, _, h => h
 | [e], M, hM, h => by
  cases M with
  | nil => rfl
  | cons c r =>
   show badO (chg i e :: c :: r) = none
   unfold badO
   rw [if_neg (show ¬ (c.f0 < (chg i e).f0) from fun hh => by have h1_ := hM c (by simp); have h2_ : c.f0 < (i : Int) := hh; omega)]
   exact h
 | e :: e2 :: l, M, hM, h => by
  have ih := badO_app i (e2 :: l) M hM h
  show badO (chg i e :: chg i e2 :: (l.map (chg i) ++ M)) = none
  unfold badO
  rw [if_neg (show ¬ ((chg i e2).f0 < (chg i e).f0) from Int.lt_irrefl _)]
  exact ih
theorem back_ord (L : List S34) : ∀ (a : List S36) (i : Nat), badO (backA L i a) = none
 | [], i => rfl
 | x :: r, i => badO_app i _ _ (fun c hc => by have := back_first L r (i + 1) c hc; omega) (back_ord L r (i + 1))
theorem back_check (x : S36) (l : List S58) (h : checkSpec (x.f1.size : Int) l = 0) : checkSpec ((app (bs x.f1) l 0).length : Int) (back x.f1 l 0) = 0 ∧ app (app (bs x.f1) l 0) (back x.f1 l 0) 0 = bs x.f1 := by
 have hc := chain_zero h
 have h1 := back_ok x.f1 l 0 0 [] (app (bs x.f1) l 0) hc rfl rfl
 have h2 := back_apart x.f1 l 0 (check_zero h).2.2
 have h3 := app_back x.f1 l 0 0 [] (app (bs x.f1) l 0) hc rfl rfl
 refine ⟨?_, by simpa using h3⟩
 unfold checkSpec
 rw [if_pos ⟨h1, Int.natCast_nonneg _⟩, if_pos h2]
theorem edF_size' (L : List S34) (i : Nat) (x : S36) : ((edF L i x).f1.size : Int) = ((app (bs x.f1) (ofl (i : Int) L) 0).length : Int) := by
 unfold edF
 rw [← bs_len, bs_mk]
theorem back_right (a : List S36) (L : List S34) (h : okT (fault a L)) : okT (fault (edA L 0 a) (backA L 0 a)) := by
 have hk := (fault_zero a L (by rw [show fault a L = (0, 0, 0) from h])).2.2.2
 unfold okT fault
 rw [edA_len, back_in L a.length a 0 (by omega)]
 show ordS (edA L 0 a) (backA L 0 a) = _
 unfold ordS
 rw [back_ord L a 0]
 refine chk_all _ _ 0 (fun j y hy => ?_)
 rw [edA_get] at hy
 obtain ⟨x, hx, rfl⟩ := Option.map_eq_some_iff.mp hy
 rw [ofl_backA L a 0 j x hx, edF_size']
 have := hk j x hx
 rw [Nat.zero_add]
 exact (back_check x _ this).1
theorem back_makes (a : List S36) (L : List S34) (h : okT (fault a L)) : edA (backA L 0 a) 0 (edA L 0 a) = a := by
 have hk := (fault_zero a L (by rw [show fault a L = (0, 0, 0) from h])).2.2.2
 refine List.ext_getElem? (fun j => ?_)
 rw [edA_get, edA_get]
 cases hx : a[j]? with
 | none => rfl
 | some x =>
  rw [Option.map_some, Option.map_some]
  congr 1
  have h1 : edF (backA L 0 a) (0 + j) (edF L (0 + j) x) = (⟨x.f0, (⟨(app (bs (edF L (0 + j) x).f1) (ofl ((0 + j : Nat) : Int) (backA L 0 a)) 0).toArray⟩ : ByteArray)⟩ : S36) := rfl
  have h2 : bs (edF L (0 + j) x).f1 = app (bs x.f1) (ofl ((0 + j : Nat) : Int) L) 0 := bs_mk _
  rw [h1, ofl_backA L a 0 j x hx, h2, (back_check x _ (by rw [Nat.zero_add]; exact hk j x hx)).2]
  have h4 : (⟨(bs x.f1).toArray⟩ : ByteArray) = x.f1 := bs_inj (bs_mk _)
  rw [h4]
theorem backA_len (L : List S34) : ∀ (a : List S36) (i : Nat), (backA L i a).length ≤ L.length * a.length
 | [], i => Nat.zero_le _
 | x :: r, i => by
  have ih := backA_len L r (i + 1)
  have := ofl_le (i : Int) L
  rw [backA, List.length_append, List.length_map, back_len, List.length_cons, Nat.mul_succ]
  omega
theorem txt_app (A B : List S34) : txt (A ++ B) = txt A + txt B := by unfold txt; rw [List.map_append, List.sum_append]
theorem txt_chg (i : Nat) : ∀ l : List S58, txt (l.map (chg i)) = sumSize l
 | [] => rfl
 | e :: l => by
  have ih := txt_chg i l
  unfold txt at ih ⊢
  rw [List.map_cons, List.map_cons, List.sum_cons, ih]
  rfl
theorem backA_txt (L : List S34) (n : Int) (h0 : 0 ≤ n) : ∀ (a : List S36) (i : Nat), (∀ x ∈ a, (x.f1.size : Int) ≤ n) → (∀ (j : Nat) (x : S36), a[j]? = some x → checkSpec (x.f1.size : Int) (ofl ((i + j : Nat) : Int) L) = 0) → txt (backA L i a) ≤ n * a.length
 | [], i, _, _ => by simp [backA, txt]
 | x :: r, i, hs, hk => by
  have ih := backA_txt L n h0 r (i + 1) (fun y hy => hs y (by simp [hy])) (fun j y hy => by
   have := hk (j + 1) y (by rw [List.getElem?_cons_succ]; exact hy)
   rwa [show i + (j + 1) = i + 1 + j by omega] at this)
  have h1 := back_size x.f1 (ofl (i : Int) L) 0 0 (chain_zero (by have := hk 0 x rfl; rwa [Nat.add_zero] at this))
  have h2 := hs x (by simp)
  rw [backA, txt_app, txt_chg, List.length_cons, Int.natCast_add, Int.mul_add]
  omega
end Go.Proofs.Ytclcnglamlegiaa.Mg
