/- Several texts of this session's, one behind the other: what each proves stands ahead of it. -/
import Derived.Test.YtnemooemifbbhaaDoorDmA
import Derived.Test.YtnemooemifbbhaaDoorPDTx18
import Derived.Test.YtnemooemifbbhaaDoorPDTx8
import Derived.Test.YtnemooemifbbhaaDoorPDTx26
import Derived.Test.YtnemooemifbbhaaDoorPDTx14
import Derived.Test.YtnemooemifbbhaaDoorPDTx22
import Derived.Test.YtnemooemifbbhaaDoorPDTx20
import Derived.Test.YtnemooemifbbhaaDoorPDTx21
import Derived.Test.YtnemooemifbbhaaDoorPDTx17
import Derived.Test.YtnemooemifbbhaaDoorPDTx25
import Derived.Lib.IndexLaws
import Derived.Test.YtnemooemifbbhaaDoorPDTx11
import Derived.Test.YtnemooemifbbhaaDoorPDTx28
namespace Go.Proofs.YtnemooemifbbhaaDoor.Dm
open Go Go.RowKit Go.Proofs.YtnemooemifbbhaaDoorW.PrintWords Go.Proofs.YtnemooemifbbhaaDoorW.PrintLast Go.Proofs.YtnemooemifbbhaaDoorW.PrintMore Go.Proofs.YtnemooemifbbhaaDoor.PDT
set_option linter.unusedVariables false
set_option linter.unusedSimpArgs false
theorem bt_eq (s : ByteArray) (i : Nat) (h : i < s.size) (c : UInt8) (r : List UInt8) (he : (bs s).drop i = c :: r) : bt s (i : Int) = (c.toNat : Int) := by
 unfold bt
 rw [dif_pos (by simpa using h)]
 have h2 : (bs s)[i]'(by rw [bs_len]; exact h) = c := by
  have := List.drop_eq_getElem_cons (show i < (bs s).length by rw [bs_len]; exact h)
  rw [he] at this
  injection this with h3 _
  exact h3.symm
 rw [← h2]
 rfl
theorem R_l0 (s : ByteArray) (hs : s.size ≤ 900000) : ∀ (r : List UInt8) (st i : Nat) (acc : List ByteArray), (bs s).drop i = r → st ≤ i → i ≤ s.size → acc.length ≤ i →
  Ev (fun k => orielref27_Lines.l0 k s acc (st : Int) (i : Int)) (acc ++ (gl (((bs s).drop st).take (i - st)) r).map ofL) := by
 intro r
 induction r with
 | nil =>
  intro st i acc h hst hi hacc
  have : s.size ≤ i := by rw [← bs_len]; exact List.drop_eq_nil_iff.mp h
  refine Ev.step (f := fun _ => some acc) (fun k => ?_) (by rw [gl, List.map_nil, List.append_nil]; exact Ev.now _)
  simp only [orielref27_Lines.l0]
  rw [if_neg (by omega)]
 | cons c r ih =>
  intro st i acc h hst hi hacc
  have hlt : i < s.size := by
   have := congrArg List.length h
   rw [List.length_drop, bs_len, List.length_cons] at this
   omega
  have hr : (bs s).drop (i + 1) = r := by rw [← List.drop_drop, h]; rfl
  have hb := bt_eq s i hlt c r h
  have e1 : wrap64 ((i : Int) + 1) = ((i + 1 : Nat) : Int) := by rw [wid (by omega) (by omega)]; omega
  have e2 : wrap64 ((s.size : Int) - 1) = (s.size : Int) - 1 := wid (by omega) (by omega)
  have hcur : ((bs s).drop st).take (i + 1 - st) = ((bs s).drop st).take (i - st) ++ [c] := by
   rw [show i + 1 - st = (i - st) + 1 by omega, List.take_add_one, List.getElem?_drop, show st + (i - st) = i by omega]
   have : (bs s)[i]? = some c := by
    have h2 : ((bs s).drop i)[0]? = some c := by rw [h]; rfl
    rwa [List.getElem?_drop, Nat.add_zero] at h2
   rw [this]
   rfl
  have hx : s.extract st (i + 1) = ofL (((bs s).drop st).take (i - st) ++ [c]) := bs_ext (by rw [bs_extract, bs_ofL, hcur])
  have hrl : r = [] ↔ (i : Int) = (s.size : Int) - 1 := by
   have := congrArg List.length h
   rw [List.length_drop, bs_len, List.length_cons] at this
   constructor
   ·intro e; subst e; simp only [List.length_nil] at this; omega
   ·intro e; exact List.length_eq_zero_iff.mp (by omega)
  rw [gl]
  by_cases hc : c = 10
  ·rw [if_pos hc]
   have := ih (i + 1) (i + 1) (acc ++ [ofL (((bs s).drop st).take (i - st) ++ [c])]) hr (Nat.le_refl _) (by omega) (by simp; omega)
   rw [Nat.sub_self, List.take_zero, List.append_assoc] at this
   refine Ev.step (fun k => ?_) this
   simp only [orielref27_Lines.l0, e1, Int.toNat_natCast]
   rw [if_pos (by omega), if_pos (by omega), hb, if_pos (by rw [hc]; rfl), if_pos (by omega), if_pos (by omega), if_pos (by omega), if_pos (by omega), hx]
  ·rw [if_neg hc]
   have hc' : ¬ ((c.toNat : Int) = 10) := fun e => hc (UInt8.toNat_inj.mp (by simpa using Int.ofNat.inj e))
   by_cases hrn : r = []
   ·rw [if_pos hrn]
    have hz := hrl.mp hrn
    have := ih (i + 1) (i + 1) (acc ++ [ofL (((bs s).drop st).take (i - st) ++ [c])]) hr (Nat.le_refl _) (by omega) (by simp; omega)
    rw [hrn, gl, List.map_nil, List.append_nil] at this
    refine Ev.step (fun k => ?_) this
    simp only [orielref27_Lines.l0, e1, e2, Int.toNat_natCast]
    rw [if_pos (by omega), if_pos (by omega), hb, if_neg hc', if_pos hz, if_pos (by omega), if_pos (by omega), if_pos (by omega), if_pos (by omega), hx]
   ·rw [if_neg hrn]
    have := ih st (i + 1) acc hr (by omega) (by omega) (by omega)
    rw [hcur] at this
    refine Ev.step (fun k => ?_) this
    simp only [orielref27_Lines.l0, e1, e2, Int.toNat_natCast]
    rw [if_pos (by omega), if_pos (by omega), hb, if_neg hc', if_neg (fun e => hrn (hrl.mpr e))]
theorem RLines_ev (s : ByteArray) (hs : s.size ≤ 900000) : Ev (fun k => orielref27_Lines.f k s) (lines s) := by
 have := R_l0 s hs (bs s) 0 0 [] (List.drop_zero) (Nat.le_refl _) (by omega) (Nat.le_refl _)
 rw [Nat.sub_self, List.take_zero, List.nil_append] at this
 exact this
theorem Ev.val {α : Type} {r q : α} (h : r = q) : Ev (fun _ => some r) q := h ▸ Ev.now r
theorem rd_mid (pre : List S56) (x : S56) (r : List S56) : rd_T56 (pre ++ x :: r) (pre.length : Int) = x := by
 unfold rd_T56
 rw [List.getD_eq_getElem?_getD]
 simp
/-! ### Check -/
def okE (n : Int) (x : S56) : Prop := 0 ≤ x.f0 ∧ x.f0 ≤ x.f1 ∧ x.f1 ≤ n
instance (n : Int) (x : S56) : Decidable (okE n x) := by unfold okE; infer_instance
def allOk (n : Int) : List S56 → Bool
 | [] => true
 | x :: r => decide (okE n x) && allOk n r
def apart : List S56 → Bool
 | [] => true
 | [_] => true
 | x :: y :: r => decide (x.f1 < y.f0) && apart (y :: r)
def checkSpec (n : Int) (l : List S56) : Int := if allOk n l = true ∧ 0 ≤ n then (if apart l = true then 0 else 3) else 2
theorem holds_eq (a b c d : Int) : text_Holds.f a b c d = some (decide (a ≤ c ∧ d ≤ b)) := by
 unfold text_Holds.f
 by_cases h : c ≥ a
 ·rw [if_pos h]
  have : a ≤ c := h
  simp [this]
 ·rw [if_neg h]
  have : ¬ a ≤ c := h
  simp [this]
theorem Check_l1 (l : List S56) (hl : l.length ≤ 9223372036854775807) : ∀ (r pre : List S56) (x : S56), l = pre ++ x :: r →
  Ev (fun k => edit_Check.l1 k l ((pre.length : Int) + 1)) (if apart (x :: r) = true then 0 else 3) := by
 intro r
 induction r with
 | nil =>
  intro pre x he
  refine Ev.step (f := fun _ => some 0) (fun k => ?_) (Ev.val (by simp [apart]))
  simp only [edit_Check.l1]
  rw [if_neg (by rw [he]; simp)]
 | cons y r ih =>
  intro pre x he
  have hlen : l.length = pre.length + 1 + 1 + r.length := by rw [he]; simp only [List.length_append, List.length_cons]; omega
  have e1 : rd_T56 l ((pre.length : Int) + 1) = y := by
   have := rd_mid (pre ++ [x]) y r
   rw [show (pre ++ [x]) ++ y :: r = l by rw [he]; simp, show (((pre ++ [x]).length : Nat) : Int) = (pre.length : Int) + 1 by simp] at this
   exact this
  have e2 : rd_T56 l (pre.length : Int) = x := by rw [he]; exact rd_mid pre x (y :: r)
  have e3 : wrap64 ((pre.length : Int) + 1 - 1) = (pre.length : Int) := by rw [wid (by omega) (by omega)]; omega
  have e4 : wrap64 ((pre.length : Int) + 1 + 1) = (((pre ++ [x]).length : Nat) : Int) + 1 := by rw [wid (by omega) (by omega)]; simp
  by_cases c : y.f0 ≤ x.f1
  ·refine Ev.step (f := fun _ => some 3) (fun k => ?_) (Ev.val (by simp [apart, show ¬ x.f1 < y.f0 by omega]))
   simp only [edit_Check.l1]
   rw [if_pos (by omega), if_pos (by omega), e3, if_pos (by omega), if_pos (by omega), e1, e2, if_pos c]
  ·have hi := ih (pre ++ [x]) y (by rw [he]; simp)
   rw [show apart (x :: y :: r) = apart (y :: r) by simp [apart, show x.f1 < y.f0 by omega]]
   refine Ev.step (fun k => ?_) hi
   simp only [edit_Check.l1]
   rw [if_pos (by omega), if_pos (by omega), e3, if_pos (by omega), if_pos (by omega), e1, e2, if_neg c, e4]
theorem Check_l1_all (l : List S56) (hl : l.length ≤ 9223372036854775807) : Ev (fun k => edit_Check.l1 k l 1) (if apart l = true then 0 else 3) := by
 cases l with
 | nil =>
  refine Ev.step (f := fun _ => some 0) (fun k => ?_) (Ev.val (by simp [apart]))
  simp only [edit_Check.l1]
  rw [if_neg (by simp)]
 | cons x r => exact Check_l1 (x :: r) hl r [] x rfl
theorem Check_l0 (n : Int) (l : List S56) (hl : l.length ≤ 9223372036854775807) : ∀ (r pre : List S56), l = pre ++ r →
  Ev (fun k => edit_Check.l0 k n l l (l.length : Int) (pre.length : Int)) (if allOk n r = true ∧ 0 ≤ n then (if apart l = true then 0 else 3) else 2) := by
 intro r
 induction r with
 | nil =>
  intro pre he
  have hp : pre.length = l.length := by rw [he]; simp
  by_cases c : n < 0
  ·refine Ev.step (f := fun _ => some 2) (fun k => ?_) (Ev.val (by rw [if_neg (by omega)]))
   simp only [edit_Check.l0]
   rw [if_neg (by omega), if_pos c]
  ·rw [if_pos ⟨by simp [allOk], by omega⟩]
   refine Ev.step (fun k => ?_) (Check_l1_all l hl)
   simp only [edit_Check.l0]
   rw [if_neg (by omega), if_neg c]
 | cons x r ih =>
  intro pre he
  have hlen : l.length = pre.length + 1 + r.length := by rw [he]; simp only [List.length_append, List.length_cons]; omega
  have e2 : rd_T56 l (pre.length : Int) = x := by rw [he]; exact rd_mid pre x r
  by_cases c : 0 ≤ x.f0 ∧ x.f1 ≤ n
  ·by_cases c2 : x.f1 < x.f0
   ·refine Ev.step (f := fun _ => some 2) (fun k => ?_) (Ev.val (by simp [allOk, okE, show ¬ x.f0 ≤ x.f1 by omega]))
    simp only [edit_Check.l0]
    rw [if_pos (by omega), if_pos (by omega), if_pos (by omega), holds_eq, e2, Option.bind_some, if_pos (by simpa using c), if_pos c2]
   ·have hi := ih (pre ++ [x]) (by rw [he]; simp)
    rw [show allOk n (x :: r) = allOk n r by simp [allOk, okE, c.1, c.2, show x.f0 ≤ x.f1 by omega]]
    refine Ev.step (fun k => ?_) hi
    simp only [edit_Check.l0]
    rw [if_pos (by omega), if_pos (by omega), if_pos (by omega), holds_eq, e2, Option.bind_some, if_pos (by simpa using c), if_neg c2, wid (by omega) (by omega)]
    simp
  ·refine Ev.step (f := fun _ => some 2) (fun k => ?_) (Ev.val (by
    rw [if_neg]
    rintro ⟨h, _⟩
    have h1 := (Bool.and_eq_true _ _ ▸ h : _ ∧ _).1
    have h2 : okE n x := of_decide_eq_true h1
    exact c ⟨h2.1, h2.2.2⟩))
   simp only [edit_Check.l0]
   rw [if_pos (by omega), if_pos (by omega), if_pos (by omega), holds_eq, e2, Option.bind_some, if_neg (by simpa using c)]
theorem Check_ev (n : Int) (l : List S56) (hl : l.length ≤ 9223372036854775807) : Ev (fun k => edit_Check.f k n l) (checkSpec n l) := Check_l0 n l hl l [] rfl
theorem RCheck_l1 (l : List S56) (hl : l.length ≤ 9223372036854775807) : ∀ (r pre : List S56) (x : S56), l = pre ++ x :: r →
  Ev (fun k => orielref02_Check.l1 k l ((pre.length : Int) + 1)) (if apart (x :: r) = true then 0 else 3) := by
 intro r
 induction r with
 | nil =>
  intro pre x he
  refine Ev.step (f := fun _ => some 0) (fun k => ?_) (Ev.val (by simp [apart]))
  simp only [orielref02_Check.l1]
  rw [if_neg (by rw [he]; simp)]
 | cons y r ih =>
  intro pre x he
  have hlen : l.length = pre.length + 1 + 1 + r.length := by rw [he]; simp only [List.length_append, List.length_cons]; omega
  have e1 : rd_T56 l ((pre.length : Int) + 1) = y := by
   have := rd_mid (pre ++ [x]) y r
   rw [show (pre ++ [x]) ++ y :: r = l by rw [he]; simp, show (((pre ++ [x]).length : Nat) : Int) = (pre.length : Int) + 1 by simp] at this
   exact this
  have e2 : rd_T56 l (pre.length : Int) = x := by rw [he]; exact rd_mid pre x (y :: r)
  have e3 : wrap64 ((pre.length : Int) + 1 - 1) = (pre.length : Int) := by rw [wid (by omega) (by omega)]; omega
  have e4 : wrap64 ((pre.length : Int) + 1 + 1) = (((pre ++ [x]).length : Nat) : Int) + 1 := by rw [wid (by omega) (by omega)]; simp
  by_cases c : y.f0 ≤ x.f1
  ·refine Ev.step (f := fun _ => some 3) (fun k => ?_) (Ev.val (by simp [apart, show ¬ x.f1 < y.f0 by omega]))
   simp only [orielref02_Check.l1]
   rw [if_pos (by omega), if_pos (by omega), e3, if_pos (by omega), if_pos (by omega), e1, e2, if_pos c]
  ·have hi := ih (pre ++ [x]) y (by rw [he]; simp)
   rw [show apart (x :: y :: r) = apart (y :: r) by simp [apart, show x.f1 < y.f0 by omega]]
   refine Ev.step (fun k => ?_) hi
   simp only [orielref02_Check.l1]
   rw [if_pos (by omega), if_pos (by omega), e3, if_pos (by omega), if_pos (by omega), e1, e2, if_neg c, e4]
theorem RCheck_l1_all (l : List S56) (hl : l.length ≤ 9223372036854775807) : Ev (fun k => orielref02_Check.l1 k l 1) (if apart l = true then 0 else 3) := by
 cases l with
 | nil =>
  refine Ev.step (f := fun _ => some 0) (fun k => ?_) (Ev.val (by simp [apart]))
  simp only [orielref02_Check.l1]
  rw [if_neg (by simp)]
 | cons x r => exact RCheck_l1 (x :: r) hl r [] x rfl
theorem RCheck_l0 (n : Int) (hn : 0 ≤ n) (l : List S56) (hl : l.length ≤ 9223372036854775807) : ∀ (r pre : List S56), l = pre ++ r →
  Ev (fun k => orielref02_Check.l0 k n l (pre.length : Int)) (if allOk n r = true ∧ 0 ≤ n then (if apart l = true then 0 else 3) else 2) := by
 intro r
 induction r with
 | nil =>
  intro pre he
  have hp : pre.length = l.length := by rw [he]; simp
  rw [if_pos ⟨by simp [allOk], by omega⟩]
  refine Ev.step (fun k => ?_) (RCheck_l1_all l hl)
  simp only [orielref02_Check.l0]
  rw [if_neg (by omega)]
 | cons x r ih =>
  intro pre he
  have hlen : l.length = pre.length + 1 + r.length := by rw [he]; simp only [List.length_append, List.length_cons]; omega
  have e2 : rd_T56 l (pre.length : Int) = x := by rw [he]; exact rd_mid pre x r
  by_cases c : okE n x
  ·have hi := ih (pre ++ [x]) (by rw [he]; simp)
   rw [show allOk n (x :: r) = allOk n r by simp [allOk, c]]
   unfold okE at c
   have hj : Ev (fun k => orielref02_Check.j1 k n l (pre.length : Int) (decide (x.f1 > n))) (if allOk n r = true ∧ 0 ≤ n then (if apart l = true then 0 else 3) else 2) := by
    refine Ev.step (fun k => ?_) hi
    rw [orielref02_Check.j1, if_neg (by simp; omega), wid (by omega) (by omega)]
    congr 1
    simp
   refine Ev.step (fun k => ?_) hj
   simp only [orielref02_Check.l0]
   rw [if_pos (by omega), if_pos (by omega), e2, if_neg (by omega), if_neg (by omega)]
  ·rw [if_neg (by simp [allOk, c])]
   unfold okE at c
   have hj : Ev (fun k => orielref02_Check.j1 k n l (pre.length : Int) true) 2 := Ev.step (f := fun _ => some 2) (fun k => by rw [orielref02_Check.j1, if_pos rfl]) (Ev.now _)
   refine Ev.step (fun k => ?_) hj
   simp only [orielref02_Check.l0]
   rw [if_pos (by omega), if_pos (by omega), e2]
   by_cases c1 : x.f0 < 0
   ·rw [if_pos c1]
   ·rw [if_neg c1]
    by_cases c2 : x.f1 < x.f0
    ·rw [if_pos c2]
    ·rw [if_neg c2, decide_eq_true (by omega)]
theorem RCheck_ev (n : Int) (l : List S56) (hl : l.length ≤ 9223372036854775807) : Ev (fun k => orielref02_Check.f k n l) (checkSpec n l) := by
 unfold orielref02_Check.f
 by_cases c : n < 0
 ·refine Ev.ite_pos c (Ev.val ?_)
  unfold checkSpec
  rw [if_neg (by omega)]
 ·exact Ev.ite_neg c (RCheck_l0 n (by omega) l hl l [] rfl)
theorem check_zero {n : Int} {l : List S56} (h : checkSpec n l = 0) : allOk n l = true ∧ 0 ≤ n ∧ apart l = true := by
 unfold checkSpec at h
 by_cases c : allOk n l = true ∧ 0 ≤ n
 ·rw [if_pos c] at h
  by_cases d : apart l = true
  ·exact ⟨c.1, c.2, d⟩
  ·rw [if_neg d] at h
   omega
 ·rw [if_neg c] at h
  omega
end Go.Proofs.YtnemooemifbbhaaDoor.Dm
namespace Go.Proofs.YtnemooemifbbhaaDoor.Dm
open Go Go.RowKit Go.Proofs.YtnemooemifbbhaaDoorW.PrintWords Go.Proofs.YtnemooemifbbhaaDoorW.PrintLast Go.Proofs.YtnemooemifbbhaaDoorW.PrintMore Go.Proofs.YtnemooemifbbhaaDoor.PDT
set_option linter.unusedVariables false
set_option linter.unusedSimpArgs false
theorem btL (l : List UInt8) (i : Nat) (h : i < l.length) : bt (ofL l) (i : Int) = (l[i].toNat : Int) := by
 unfold bt
 rw [dif_pos (by rw [ofL_size]; simpa using h)]
 rfl
theorem btA {x : ByteArray} {P s : List UInt8} {q : UInt8} (h : bs x = P ++ s ++ [q]) (j : Nat) (hj : j < s.length) : bt x ((P.length + j : Nat) : Int) = (s[j].toNat : Int) := by
 have e : x = ofL (P ++ s ++ [q]) := by rw [← h, ofL_bs]
 have hl : P.length + j < (P ++ s ++ [q]).length := by simp only [List.length_append]; omega
 rw [e, btL _ _ hl]
 congr 2
 rw [List.getElem_append_left (by simp only [List.length_append]; omega), List.getElem_append_right (by omega)]
 congr 1
 omega
/-! ### one unit of a quoted text -/
def hexv (c : UInt8) : Option Nat := if 48 ≤ c.toNat ∧ c.toNat ≤ 57 then some (c.toNat - 48) else if 97 ≤ c.toNat ∧ c.toNat ≤ 102 then some (c.toNat - 87) else none
def hexd16 : List UInt8 := [48, 49, 50, 51, 52, 53, 54, 55, 56, 57, 97, 98, 99, 100, 101, 102]
theorem hexv_fin : ∀ n : Fin 256, Lib.indexByte hexd16 (UInt8.ofNat n.val) = (match hexv (UInt8.ofNat n.val) with | some v => (v : Int) | none => -1) := by decide +kernel
theorem of8 (c : UInt8) : UInt8.ofNat c.toNat = c := by simp
theorem hexv_idx (c : UInt8) : Lib.indexByte hexd16 c = (match hexv c with | some v => (v : Int) | none => -1) := by
 have := hexv_fin ⟨c.toNat, c.toNat_lt⟩
 rwa [of8] at this
theorem hexv_lt {c : UInt8} {v : Nat} (h : hexv c = some v) : v < 16 := by
 unfold hexv at h
 split at h
 ·injection h with h; omega
 ·split at h
  ·injection h with h; omega
  ·cases h
theorem hexv_hexd : ∀ n : Fin 16, hexv (hexd n.val) = some n.val := by decide +kernel
theorem or_hex : ∀ a b : Fin 16, (Go.bits .or .i64 (wrap64 ((a.val : Int) * 16)) (b.val : Int)) % 256 = ((UInt8.ofNat (16 * a.val + b.val)).toNat : Int) := by decide +kernel
def pairH (a b : Option Nat) : Option (UInt8 × Nat) := match a with
 | none => none
 | some x => match b with
  | none => none
  | some y => some (UInt8.ofNat (16 * x + y), 4)
def hex2 : List UInt8 → Option (UInt8 × Nat)
 | [] => none
 | a :: r => match r with
  | [] => none
  | b :: _ => pairH (hexv a) (hexv b)
def esc : List UInt8 → Option (UInt8 × Nat)
 | [] => none
 | d :: r2 => if d.toNat = 110 then some (10, 2) else if d.toNat = 34 ∨ d.toNat = 92 then some (d, 2) else if d.toNat = 120 then hex2 r2 else none
def oneL : List UInt8 → Option (UInt8 × Nat)
 | [] => none
 | c :: r => if c.toNat = 92 then esc r else some (c, 1)
theorem pairH_len {a b : Option Nat} {c : UInt8} {m : Nat} (h : pairH a b = some (c, m)) : m = 4 := by
 unfold pairH at h
 split at h
 ·cases h
 ·split at h
  ·cases h
  ·injection h with h; injection h with h1 h2; exact h2.symm
theorem hex2_len {s : List UInt8} {c : UInt8} {m : Nat} (h : hex2 s = some (c, m)) : m = 4 ∧ 2 ≤ s.length := by
 unfold hex2 at h
 split at h
 ·cases h
 ·split at h
  ·cases h
  ·exact ⟨pairH_len h, by simp only [List.length_cons]; omega⟩
theorem esc_len {s : List UInt8} {c : UInt8} {m : Nat} (h : esc s = some (c, m)) : 2 ≤ m ∧ m ≤ s.length + 1 := by
 unfold esc at h
 split at h
 ·cases h
 ·split at h
  ·injection h with h; injection h with h1 h2; simp only [List.length_cons]; omega
  ·split at h
   ·injection h with h; injection h with h1 h2; simp only [List.length_cons]; omega
   ·split at h
    ·have := hex2_len h
     simp only [List.length_cons]
     omega
    ·cases h
theorem oneL_len {s : List UInt8} {c : UInt8} {m : Nat} (h : oneL s = some (c, m)) : 1 ≤ m ∧ m ≤ s.length := by
 unfold oneL at h
 split at h
 ·cases h
 ·split at h
  ·have := esc_len h
   simp only [List.length_cons]
   omega
  ·injection h with h; injection h with h1 h2; simp only [List.length_cons]; omega
theorem oneL_q (c : UInt8) (r : List UInt8) : oneL (qtB c ++ r) = some (c, (qtB c).length) := by
 have hc := c.toNat_lt
 unfold qtB
 by_cases h1 : c.toNat = 34 ∨ c.toNat = 92
 ·rw [if_pos h1]
  show oneL (92 :: c :: r) = some (c, 2)
  rw [oneL, if_pos (by decide), esc, if_neg (by omega), if_pos h1]
 ·rw [if_neg h1]
  by_cases h2 : c.toNat = 10
  ·rw [if_pos h2]
   show oneL (92 :: 110 :: r) = some (c, 2)
   have : c = 10 := UInt8.toNat_inj.mp h2
   rw [this]
   rfl
  ·rw [if_neg h2]
   by_cases h3 : c.toNat < 32 ∨ c.toNat > 126
   ·rw [if_pos h3]
    show oneL (92 :: 120 :: hexd (c.toNat / 16) :: hexd (c.toNat % 16) :: r) = some (c, 4)
    have e1 := hexv_hexd ⟨c.toNat / 16, by omega⟩
    have e2 := hexv_hexd ⟨c.toNat % 16, by omega⟩
    simp only at e1 e2
    rw [oneL, if_pos (by decide), esc, if_neg (by decide), if_neg (by decide), if_pos (by decide)]
    show pairH (hexv (hexd (c.toNat / 16))) (hexv (hexd (c.toNat % 16))) = _
    rw [e1, e2]
    show some (UInt8.ofNat (16 * (c.toNat / 16) + c.toNat % 16), 4) = some (c, 4)
    rw [show 16 * (c.toNat / 16) + c.toNat % 16 = c.toNat by omega, of8]
   ·rw [if_neg h3]
    show oneL (c :: r) = some (c, 1)
    rw [oneL, if_neg (by omega)]
def unL : Nat → List UInt8 → List UInt8 → Option (List UInt8)
 | 0, _, _ => none
 | n + 1, s, out => if s = [] then some out else match oneL s with
  | none => none
  | some t => unL n (s.drop t.2) (out ++ [t.1])
theorem qtB_pos (c : UInt8) : 1 ≤ (qtB c).length := by
 unfold qtB
 split
 ·exact Nat.le_add_left 1 1
 ·split
  ·exact Nat.le_add_left 1 1
  ·split
   ·exact Nat.le_add_left 1 3
   ·exact Nat.le_refl 1
theorem unL_q : ∀ (t : List UInt8) (n : Nat) (out : List UInt8), t.length < n → unL n (t.flatMap qtB) out = some (out ++ t)
 | [], n + 1, out, _ => by
  rw [List.flatMap_nil, unL, if_pos rfl, List.append_nil]
 | c :: t, n + 1, out, h => by
  have hp := qtB_pos c
  have hne : qtB c ++ t.flatMap qtB ≠ [] := fun e => by
   have := congrArg List.length e
   rw [List.length_append, List.length_nil] at this
   omega
  rw [List.flatMap_cons, unL, if_neg hne, oneL_q]
  show unL n ((qtB c ++ t.flatMap qtB).drop (qtB c).length) (out ++ [c]) = _
  rw [List.drop_left, unL_q t n (out ++ [c]) (by simp only [List.length_cons] at h; omega), List.append_assoc]
  rfl
/-! ### the program's -/
theorem one_ev (s : List UInt8) (hs : s ≠ []) : Ev (fun k => report_one.f k (ofL s)) (match oneL s with | some t => ((t.1.toNat : Int), (t.2 : Int)) | none => (0, 0)) := by
 cases s with
 | nil => exact absurd rfl hs
 | cons c r =>
  have z : ((ofL (c :: r)).size : Int) = (r.length : Int) + 1 := by rw [ofL_size, List.length_cons]; omega
  have b0 : bt (ofL (c :: r)) 0 = (c.toNat : Int) := btL (c :: r) 0 (by simp)
  have bj : ∀ (j : Nat) (h : j < r.length), bt (ofL (c :: r)) ((j + 1 : Nat) : Int) = (r[j].toNat : Int) := fun j h => by rw [btL (c :: r) (j + 1) (by simpa using h)]; rfl
  generalize ofL (c :: r) = x at z b0 bj ⊢
  unfold report_one.f
  refine Ev.ite_pos (by omega) ?_
  rw [oneL]
  by_cases h92 : c.toNat = 92
  ·rw [if_pos h92]
   refine Ev.ite_pos (by omega) ?_
   cases r with
   | nil => exact Ev.ite_pos (by rw [z]; decide) (Ev.now _)
   | cons d r2 =>
    have b1 : bt x 1 = (d.toNat : Int) := bj 0 (by simp)
    have z2 : (x.size : Int) = (r2.length : Int) + 2 := by rw [z, List.length_cons]; omega
    refine Ev.ite_neg (by omega) (Ev.ite_pos (by omega) ?_)
    rw [esc]
    by_cases h110 : d.toNat = 110
    ·rw [if_pos h110]
     exact Ev.ite_pos (by omega) (Ev.now _)
    ·rw [if_neg h110]
     refine Ev.ite_neg (by omega) ?_
     have ht : Ev (fun k => report_one.j0 k x true) ((d.toNat : Int), 2) := Ev.step (f := fun _ => some ((d.toNat : Int), 2)) (fun k => by rw [report_one.j0, if_pos rfl, if_pos (by omega), b1]) (Ev.now _)
     by_cases h34 : d.toNat = 34
     ·rw [if_pos (Or.inl h34)]
      exact Ev.ite_pos (by omega) ht
     ·refine Ev.ite_neg (by omega) ?_
      by_cases hd : d.toNat = 92
      ·rw [if_pos (Or.inr hd), show (bt x 1 == 92) = true from beq_iff_eq.mpr (by omega)]
       exact ht
      ·rw [if_neg (by omega), show (bt x 1 == 92) = false from beq_eq_false_iff_ne.mpr (by omega)]
       have hn : Ev (fun k => report_one.j1 k x false) (0, 0) := Ev.step (f := fun _ => some (0, 0)) (fun k => by rw [report_one.j1, if_neg (by decide)]) (Ev.now _)
       by_cases h120 : d.toNat = 120
       ·rw [if_pos h120]
        refine Ev.step (f := fun k => report_one.j1 k x (decide ((x.size : Int) ≥ 4))) (fun k => by rw [report_one.j0, if_neg (by decide), if_pos (by omega), if_pos (by omega)]) ?_
        cases r2 with
        | nil =>
         rw [decide_eq_false (by rw [z2]; decide)]
         exact hn
        | cons a r3 =>
         cases r3 with
         | nil =>
          have z3 : (x.size : Int) = 3 := z2
          rw [decide_eq_false (by omega)]
          exact hn
         | cons b r4 =>
          have b2 : bt x 2 = (a.toNat : Int) := bj 1 (by simp)
          have b3 : bt x 3 = (b.toNat : Int) := bj 2 (by simp)
          have z4 : (x.size : Int) = (r4.length : Int) + 4 := by rw [z2, List.length_cons, List.length_cons]; omega
          rw [decide_eq_true (by omega)]
          have i2 : strings_IndexByte.f (⟨#[48, 49, 50, 51, 52, 53, 54, 55, 56, 57, 97, 98, 99, 100, 101, 102]⟩ : ByteArray) (bt x 2) = some (match hexv a with | some v => (v : Int) | none => -1) := by
           unfold strings_IndexByte.f
           rw [b2, Int.toNat_natCast, show a.toNat.toUInt8 = a from of8 a, ← hexv_idx]
           rfl
          have i3 : strings_IndexByte.f (⟨#[48, 49, 50, 51, 52, 53, 54, 55, 56, 57, 97, 98, 99, 100, 101, 102]⟩ : ByteArray) (bt x 3) = some (match hexv b with | some v => (v : Int) | none => -1) := by
           unfold strings_IndexByte.f
           rw [b3, Int.toNat_natCast, show b.toNat.toUInt8 = b from of8 b, ← hexv_idx]
           rfl
          refine Ev.step (f := fun _ => some _) (fun k => ?_) (Ev.now _)
          show _ = some (match pairH (hexv a) (hexv b) with | some t => ((t.1.toNat : Int), (t.2 : Int)) | none => (0, 0))
          rw [report_one.j1, if_pos rfl, if_pos (by omega), i2, Option.bind_some, if_pos (by omega), i3, Option.bind_some]
          cases ha : hexv a with
          | none =>
           rw [if_neg (by decide)]
           rfl
          | some va =>
           rw [if_pos (Int.natCast_nonneg va)]
           cases hb : hexv b with
           | none =>
            rw [if_neg (by decide)]
            rfl
           | some vb =>
            rw [if_pos (Int.natCast_nonneg vb)]
            have := or_hex ⟨va, hexv_lt ha⟩ ⟨vb, hexv_lt hb⟩
            simp only at this
            rw [this]
            rfl
       ·rw [if_neg h120]
        exact Ev.step (f := fun k => report_one.j1 k x false) (fun k => by rw [report_one.j0, if_neg (by decide), if_pos (by omega), if_neg (by omega)]) hn
  ·rw [if_neg h92]
   refine Ev.ite_neg (by omega) ?_
   rw [b0]
   exact Ev.now _
theorem unqGo_ev : ∀ (n : Nat) (s out : List UInt8), s.length < n → Ev (fun k => unqGo k n (ofL s) out) (unL n s out)
 | 0, _, _, h => by omega
 | n + 1, s, out, h => by
  rw [unL]
  simp only [unqGo]
  by_cases e : s = []
  ·rw [if_pos e]
   exact Ev.ite_pos (by rw [ofL_size, e]; rfl) (Ev.now _)
  ·rw [if_neg e]
   refine Ev.ite_neg (by rw [ofL_size]; exact fun h => e (List.length_eq_zero_iff.mp h)) ?_
   refine Ev.bind (one_ev s e) ?_
   cases h1 : oneL s with
   | none => exact Ev.ite_pos rfl (Ev.now _)
   | some t =>
    obtain ⟨c, m⟩ := t
    have hm := oneL_len h1
    have hc := c.toNat_lt
    refine Ev.ite_neg (show ¬ ((m : Int) = 0) by omega) (Ev.ite_pos (show 1 ≤ (m : Int) ∧ (m : Int) ≤ ((ofL s).size : Int) ∧ 0 ≤ (c.toNat : Int) ∧ (c.toNat : Int) < 256 by rw [ofL_size]; omega) ?_)
    show Ev (fun k => unqGo k n ((ofL s).extract ((m : Int)).toNat (ofL s).size) (out ++ [UInt8.ofNat (c.toNat : Int).toNat])) _
    have e1 : (ofL s).extract ((m : Int)).toNat (ofL s).size = ofL (s.drop m) := by
     rw [Int.toNat_natCast, extract_ofL, ofL_size, List.take_of_length_le (by rw [List.length_drop]; exact Nat.le_refl _)]
    rw [e1, Int.toNat_natCast, of8]
    exact unqGo_ev n _ _ (by rw [List.length_drop]; omega)
def unqR (s : ByteArray) : ByteArray × Bool := if s.size < 2 ∨ bt s 0 ≠ 34 ∨ bt s ((s.size : Int) - 1) ≠ 34 then (⟨#[]⟩, false) else match unL (s.size + 1) (((bs s).drop 1).take (s.size - 2)) [] with
 | none => (⟨#[]⟩, false)
 | some out => if (ofL (qtL out)) = s then (ofL out, true) else (⟨#[]⟩, false)
theorem Unquote_ev (s : ByteArray) (hs : s.size ≤ 200000000) : Ev (fun k => report_Unquote.f k s) (unqR s) := by
 unfold report_Unquote.f unqR
 refine Ev.ite_pos hs ?_
 by_cases c : s.size < 2
 ·rw [if_pos (Or.inl c)]
  exact Ev.ite_pos c (Ev.now _)
 ·refine Ev.ite_neg c ?_
  by_cases d : bt s 0 = 34 ∧ bt s ((s.size : Int) - 1) = 34
  ·rw [if_neg (by omega)]
   refine Ev.ite_pos d ?_
   have e1 : s.extract 1 (s.size - 1) = ofL (((bs s).drop 1).take (s.size - 2)) := bs_ext (by rw [bs_extract, bs_ofL]; rfl)
   rw [e1]
   refine Ev.bind (unqGo_ev (s.size + 1) _ [] (by rw [List.length_take, List.length_drop, bs_len]; omega)) ?_
   cases unL (s.size + 1) (((bs s).drop 1).take (s.size - 2)) [] with
   | none => exact Ev.now _
   | some out => exact Ev.now _
  ·rw [if_pos (by omega)]
   exact Ev.ite_neg d (Ev.now _)
theorem unqR_q (t : List UInt8) : unqR (ofL (qtL t)) = (ofL t, true) := by
 have hl : (ofL (qtL t)).size = (t.flatMap qtB).length + 2 := by rw [ofL_size, qtL, List.length_cons, List.length_append]; rfl
 have h0 : bt (ofL (qtL t)) 0 = 34 := by
  have := btL (qtL t) 0 (by rw [qtL, List.length_cons]; omega)
  exact this
 have h1 : bt (ofL (qtL t)) (((ofL (qtL t)).size : Int) - 1) = 34 := by
  have := btL (qtL t) ((t.flatMap qtB).length + 1) (by rw [qtL, List.length_cons, List.length_append]; simp)
  rw [show ((ofL (qtL t)).size : Int) - 1 = (((t.flatMap qtB).length + 1 : Nat) : Int) by omega, this]
  simp [qtL]
 unfold qtL at *
 unfold unqR
 rw [if_neg (by omega), bs_ofL, hl]
 have e : ((34 :: (t.flatMap qtB ++ [34])).drop 1).take ((t.flatMap qtB).length + 2 - 2) = t.flatMap qtB := by
  show (t.flatMap qtB ++ [34]).take ((t.flatMap qtB).length + 2 - 2) = _
  rw [Nat.add_sub_cancel, List.take_left]
 have hq : t.length ≤ (t.flatMap qtB).length := by
  clear hl h0 h1 e
  induction t with
  | nil => exact Nat.le_refl _
  | cons c t ih =>
   have := qtB_pos c
   rw [List.flatMap_cons, List.length_append, List.length_cons]
   omega
 rw [e, unL_q t _ [] (by omega)]
 show (if ofL (34 :: ((([] : List UInt8) ++ t).flatMap qtB ++ [34])) = _ then _ else _) = _
 rw [List.nil_append, if_pos rfl]
end Go.Proofs.YtnemooemifbbhaaDoor.Dm
namespace Go.Proofs.YtnemooemifbbhaaDoor.Dm
open Go Go.RowKit Go.Proofs.YtnemooemifbbhaaDoorW.PrintWords Go.Proofs.YtnemooemifbbhaaDoorW.PrintLast Go.Proofs.YtnemooemifbbhaaDoorW.PrintMore Go.Proofs.YtnemooemifbbhaaDoor.PDT
set_option linter.unusedVariables false
set_option linter.unusedSimpArgs false
theorem bs_app (a b : ByteArray) : bs (a ++ b) = bs a ++ bs b := by
 unfold bs
 rw [ByteArray.data_append, Array.toList_append]
theorem ofL_ofL (a b : List UInt8) : ofL a ++ ofL b = ofL (a ++ b) := bs_ext (by rw [bs_app, bs_ofL, bs_ofL, bs_ofL])
theorem nums1 (n : Nat) (h : n < 256) : strOfNums [((n : Int)) % 256] = ofL [UInt8.ofNat n] := by
 have e : ((n : Int) % 256).toNat = n := by omega
 show (⟨([UInt8.ofNat ((n : Int) % 256).toNat]).toArray⟩ : ByteArray) = _
 rw [e]
 rfl
theorem byteOf_nat (n : Nat) (h : n < 256) : orielref25_byteOf.f (n : Int) = some (ofL [UInt8.ofNat n]) := by
 unfold orielref25_byteOf.f
 rw [nums1 n h]
theorem byteOf_c (c : UInt8) : orielref25_byteOf.f (c.toNat : Int) = some (ofL [c]) := by
 rw [byteOf_nat _ c.toNat_lt, of8]
theorem digit_nat (n : Nat) (h : n < 16) : orielref25_digit.f (n : Int) = some (ofL [hexd n]) := by
 unfold orielref25_digit.f hexd
 by_cases c : n < 10
 ·rw [if_pos (by omega), if_pos c, wid (by omega) (by omega), show (48 : Int) + (n : Int) = ((48 + n : Nat) : Int) by omega, byteOf_nat _ (by omega)]
  rfl
 ·rw [if_neg (by omega), if_neg c, wid (by omega) (by omega), show (87 : Int) + (n : Int) = ((87 + n : Nat) : Int) by omega, byteOf_nat _ (by omega)]
  rfl
theorem RQ_l0 (s : ByteArray) (hs : s.size ≤ 1000000) : ∀ (r : List UInt8) (i : Nat) (acc : List UInt8), (bs s).drop i = r → acc.length ≤ 4 * i + 1 → i ≤ s.size → Ev (fun k => orielref25_Quote.l0 k s (ofL acc) (i : Int)) (ofL (acc ++ r.flatMap qtB ++ [34])) := by
 intro r
 induction r with
 | nil =>
  intro i acc h ha hi
  have : s.size ≤ i := by rw [← bs_len]; exact List.drop_eq_nil_iff.mp h
  refine Ev.step (f := fun _ => some (ofL (acc ++ [34]))) (fun k => ?_) (by rw [List.flatMap_nil, List.append_nil]; exact Ev.now _)
  rw [orielref25_Quote.l0, if_neg (by omega), show (34 : Int) = ((34 : Nat) : Int) from rfl, byteOf_nat 34 (by decide), Option.bind_some, if_pos (by rw [ofL_size, ofL_size, List.length_singleton]; omega), ofL_ofL]
  rfl
 | cons c r ih =>
  intro i acc h ha hi
  have hlt : i < s.size := by
   have := congrArg List.length h
   rw [List.length_drop, bs_len, List.length_cons] at this
   omega
  have hr : (bs s).drop (i + 1) = r := by rw [← List.drop_drop, h]; rfl
  have hb := bt_eq s i hlt c r h
  have hc := c.toNat_lt
  have hq : (qtB c).length ≤ 4 := qtB_len c
  have ew : wrap64 (bt s (i : Int)) = (c.toNat : Int) := by rw [hb, wid (by omega) (by omega)]
  have e1 : wrap64 ((i : Int) + 1) = ((i + 1 : Nat) : Int) := by rw [wid (by omega) (by omega)]; omega
  have hi' := ih (i + 1) (acc ++ qtB c) hr (by rw [List.length_append]; omega) hlt
  rw [List.flatMap_cons, ← List.append_assoc acc]
  rw [← e1] at hi'
  clear ih
  have key : ∀ b : Bool, (b = true ↔ c.toNat = 34 ∨ c.toNat = 92) → Ev (fun k => orielref25_Quote.j1 k s (ofL acc) (i : Int) (c.toNat : Int) b) (ofL (acc ++ qtB c ++ r.flatMap qtB ++ [34])) := by
   intro b hbb
   by_cases h1 : c.toNat = 34 ∨ c.toNat = 92
   ·rw [hbb.mpr h1]
    have eq : qtB c = [92, c] := if_pos h1
    rw [eq] at hi' ⊢
    refine Ev.step (fun k => ?_) hi'
    rw [orielref25_Quote.j1, if_pos rfl, show (92 : Int) = ((92 : Nat) : Int) from rfl, byteOf_nat 92 (by decide), Option.bind_some, if_pos (by rw [ofL_size, ofL_size, List.length_singleton]; omega), byteOf_c, Option.bind_some, if_pos (by rw [ofL_ofL, ofL_size, ofL_size, List.length_singleton, List.length_append, List.length_singleton]; omega), ofL_ofL, ofL_ofL, List.append_assoc]
    rfl
   ·have hbf : b = false := by
     cases b with
     | true => exact absurd (hbb.mp rfl) h1
     | false => rfl
    rw [hbf]
    by_cases h2 : c.toNat = 10
    ·have eq : qtB c = [92, 110] := by unfold qtB; rw [if_neg h1, if_pos h2]
     rw [eq] at hi' ⊢
     refine Ev.step (fun k => ?_) hi'
     rw [orielref25_Quote.j1, if_neg (by decide), if_pos (by omega), show (92 : Int) = ((92 : Nat) : Int) from rfl, byteOf_nat 92 (by decide), Option.bind_some, if_pos (by rw [ofL_size, ofL_size, List.length_singleton]; omega), if_pos (by rw [ofL_ofL, ofL_size, List.length_append, List.length_singleton]; omega), show (⟨#[110]⟩ : ByteArray) = ofL [110] from rfl, ofL_ofL, ofL_ofL, List.append_assoc]
     rfl
    ·have key2 : ∀ b2 : Bool, (b2 = true ↔ c.toNat < 32 ∨ c.toNat > 126) → Ev (fun k => orielref25_Quote.j2 k s (ofL acc) (i : Int) (c.toNat : Int) b2) (ofL (acc ++ qtB c ++ r.flatMap qtB ++ [34])) := by
      intro b2 hb2
      by_cases h3 : c.toNat < 32 ∨ c.toNat > 126
      ·rw [hb2.mpr h3]
       have eq : qtB c = [92, 120, hexd (c.toNat / 16), hexd (c.toNat % 16)] := by unfold qtB; rw [if_neg h1, if_neg h2, if_pos h3]
       rw [eq] at hi' ⊢
       have d1 : orielref25_digit.f (wrap64 (Int.tdiv (c.toNat : Int) 16)) = some (ofL [hexd (c.toNat / 16)]) := by
        rw [show Int.tdiv (c.toNat : Int) 16 = ((c.toNat / 16 : Nat) : Int) from rfl, wid (by omega) (by omega), digit_nat _ (by omega)]
       have d2 : orielref25_digit.f (Int.tmod (c.toNat : Int) 16) = some (ofL [hexd (c.toNat % 16)]) := by
        rw [show Int.tmod (c.toNat : Int) 16 = ((c.toNat % 16 : Nat) : Int) from rfl, digit_nat _ (by omega)]
       refine Ev.step (fun k => ?_) hi'
       rw [orielref25_Quote.j2, if_pos rfl, show (92 : Int) = ((92 : Nat) : Int) from rfl, byteOf_nat 92 (by decide), Option.bind_some, if_pos (by rw [ofL_size, ofL_size, List.length_singleton]; omega), ofL_ofL, if_pos (by rw [ofL_size, List.length_append, List.length_singleton]; omega), show (⟨#[120]⟩ : ByteArray) = ofL [120] from rfl, d1, Option.bind_some, ofL_ofL, if_pos (by rw [ofL_size, ofL_size]; simp only [List.length_append, List.length_singleton]; omega), d2, Option.bind_some, ofL_ofL, if_pos (by rw [ofL_size, ofL_size]; simp only [List.length_append, List.length_singleton]; omega), ofL_ofL]
       simp only [List.append_assoc]
       rfl
      ·have hbf2 : b2 = false := by
        cases b2 with
        | true => exact absurd (hb2.mp rfl) h3
        | false => rfl
       rw [hbf2]
       have eq : qtB c = [c] := by unfold qtB; rw [if_neg h1, if_neg h2, if_neg h3]
       rw [eq] at hi' ⊢
       refine Ev.step (fun k => ?_) hi'
       rw [orielref25_Quote.j2, if_neg (by decide), byteOf_c, Option.bind_some, if_pos (by rw [ofL_size, ofL_size, List.length_singleton]; omega), ofL_ofL]
     by_cases h4 : c.toNat < 32
     ·refine Ev.step (fun k => ?_) (key2 true ⟨fun _ => Or.inl h4, fun _ => rfl⟩)
      rw [orielref25_Quote.j1, if_neg (by decide), if_neg (by omega), if_pos (by omega)]
     ·refine Ev.step (fun k => ?_) (key2 (decide ((c.toNat : Int) ≥ 127)) ⟨fun h => Or.inr (by have := of_decide_eq_true h; omega), fun h => decide_eq_true (by omega)⟩)
      rw [orielref25_Quote.j1, if_neg (by decide), if_neg (by omega), if_neg (by omega)]
  by_cases h5 : c.toNat = 34
  ·refine Ev.step (fun k => ?_) (key true ⟨fun _ => Or.inl h5, fun _ => rfl⟩)
   rw [orielref25_Quote.l0, if_pos (by omega), if_pos (by omega), ew, if_pos (by omega)]
  ·refine Ev.step (fun k => ?_) (key ((c.toNat : Int) == 92) ⟨fun h => Or.inr (by have := beq_iff_eq.mp h; omega), fun h => beq_iff_eq.mpr (by omega)⟩)
   rw [orielref25_Quote.l0, if_pos (by omega), if_pos (by omega), ew, if_neg (by omega)]
theorem RQuote_ev (s : ByteArray) (hs : s.size ≤ 1000000) : Ev (fun k => orielref25_Quote.f k s) (ofL (qtL (bs s))) := by
 unfold orielref25_Quote.f
 refine Ev.congr (fun k => by rw [show (34 : Int) = ((34 : Nat) : Int) from rfl, byteOf_nat 34 (by decide), Option.bind_some]) ?_
 exact RQ_l0 s hs (bs s) 0 [34] rfl (by decide) (Nat.zero_le _)
theorem hex_ev (c : UInt8) : Ev (fun k => orielref26_hex.f k (c.toNat : Int)) (match hexv c with | some v => (v : Int) | none => -1) := by
 have hc := c.toNat_lt
 have hf : ¬ (48 ≤ c.toNat ∧ c.toNat ≤ 57) → Ev (fun k => orielref26_hex.j0 k (c.toNat : Int) false) (match hexv c with | some v => (v : Int) | none => -1) := by
  intro h
  unfold hexv
  rw [if_neg h]
  refine Ev.step (f := fun _ => some _) (fun k => ?_) (Ev.now _)
  rw [orielref26_hex.j0, if_neg (by decide)]
  by_cases d : 97 ≤ c.toNat ∧ c.toNat ≤ 102
  ·rw [if_pos (by omega), if_pos (by omega), if_pos d, wid (x := (c.toNat : Int)) (by omega) (by omega), wid (by omega) (by omega)]
   show some _ = some ((c.toNat - 87 : Nat) : Int)
   congr 1
   omega
  ·rw [if_neg d]
   by_cases e : 97 ≤ c.toNat
   ·rw [if_pos (by omega), if_neg (by omega)]
   ·rw [if_neg (by omega)]
 unfold orielref26_hex.f
 by_cases a : 48 ≤ c.toNat
 ·refine Ev.ite_pos (by omega) ?_
  by_cases b : c.toNat ≤ 57
  ·rw [decide_eq_true (by omega)]
   unfold hexv
   rw [if_pos ⟨a, b⟩]
   refine Ev.step (f := fun _ => some _) (fun k => ?_) (Ev.now _)
   rw [orielref26_hex.j0, if_pos rfl, wid (x := (c.toNat : Int)) (by omega) (by omega), wid (by omega) (by omega)]
   show some _ = some ((c.toNat - 48 : Nat) : Int)
   congr 1
   omega
  ·rw [decide_eq_false (by omega)]
   exact hf (by omega)
 ·exact Ev.ite_neg (by omega) (hf (by omega))
end Go.Proofs.YtnemooemifbbhaaDoor.Dm
namespace Go.Proofs.YtnemooemifbbhaaDoor.Dm
open Go Go.RowKit Go.Proofs.YtnemooemifbbhaaDoorW.PrintWords Go.Proofs.YtnemooemifbbhaaDoorW.PrintLast Go.Proofs.YtnemooemifbbhaaDoorW.PrintMore Go.Proofs.YtnemooemifbbhaaDoor.PDT
set_option linter.unusedVariables false
set_option linter.unusedSimpArgs false
def endR (x : ByteArray) : Option (List UInt8) → ByteArray × Bool
 | none => (⟨#[]⟩, false)
 | some o => if ofL (qtL o) = x then (ofL o, true) else (⟨#[]⟩, false)
theorem hexsum (va vb : Nat) (h1 : va < 16) (h2 : vb < 16) : wrap64 (wrap64 (16 * (va : Int)) + (vb : Int)) = ((16 * va + vb : Nat) : Int) := by
 rw [wid (x := 16 * (va : Int)) (by omega) (by omega), wid (by omega) (by omega)]
 omega
theorem wadd2 (n : Nat) (h : n ≤ 4000000) : wrap64 ((n : Int) + 2) = ((n + 2 : Nat) : Int) := by
 rw [wid (by omega) (by omega)]
 omega
set_option maxHeartbeats 8000000 in
theorem RU_l0 (x : ByteArray) (hx : x.size ≤ 1000000) (q : UInt8) : ∀ (n : Nat) (P s out : List UInt8), bs x = P ++ s ++ [q] → s.length < n → out.length ≤ P.length → Ev (fun k => orielref26_Unquote.l0 k x (ofL out) (P.length : Int)) (endR x (unL n s out)) := by
 intro n
 induction n with
 | zero => intro P s out _ h; omega
 | succ n ih =>
  intro P s out hb hs ho
  have hz : x.size = P.length + s.length + 1 := by
   have := congrArg List.length hb
   rw [bs_len, List.length_append, List.length_append, List.length_singleton] at this
   exact this
  have ez : wrap64 ((x.size : Int) - 1) = (x.size : Int) - 1 := wid (by omega) (by omega)
  have ei : wrap64 ((P.length : Int) + 1) = ((P.length + 1 : Nat) : Int) := wsucc _ (by omega)
  have ei2 : wrap64 (((P.length + 1 : Nat) : Int) + 1) = ((P.length + 2 : Nat) : Int) := wsucc _ (by omega)
  have hbt := btA hb
  have next : ∀ (c : UInt8) (m : Nat), 1 ≤ m → m ≤ s.length → Ev (fun k => orielref26_Unquote.l0 k x (ofL (out ++ [c])) ((P.length + m : Nat) : Int)) (endR x (unL n (s.drop m) (out ++ [c]))) := by
   intro c m h1 h2
   have := ih (P ++ s.take m) (s.drop m) (out ++ [c]) (by rw [List.append_assoc P, List.take_append_drop, hb]) (by rw [List.length_drop]; omega) (by simp only [List.length_append, List.length_singleton, List.length_take]; omega)
   rwa [show (P ++ s.take m).length = P.length + m by rw [List.length_append, List.length_take]; omega] at this
  rw [unL]
  by_cases e : s = []
  ·subst e
   rw [if_pos rfl]
   have hob : (ofL out).size ≤ 1000000 := by rw [ofL_size]; omega
   have hQ := RQuote_ev (ofL out) hob
   refine Ev.step (f := fun k => (orielref25_Quote.f k (ofL out)).bind fun t216 => if t216.toList = x.toList then some (ofL out, true) else some ((⟨#[]⟩ : ByteArray), false)) (fun k => ?_) (Ev.bind (f := fun k t216 => if t216.toList = x.toList then some (ofL out, true) else some ((⟨#[]⟩ : ByteArray), false)) hQ ?_)
   ·rw [orielref26_Unquote.l0, ez, if_neg (by rw [hz]; simp only [List.length_nil]; omega)]
   ·rw [bs_ofL]
    show Ev _ (if ofL (qtL out) = x then (ofL out, true) else (⟨#[]⟩, false))
    by_cases d : ofL (qtL out) = x
    ·rw [if_pos d]
     exact Ev.ite_pos (by rw [d]) (Ev.now _)
    ·rw [if_neg d]
     exact Ev.ite_neg (fun h => d (bs_ext (by rw [toList_eq, toList_eq] at h; exact h))) (Ev.now _)
  ·rw [if_neg e]
   cases s with
   | nil => exact absurd rfl e
   | cons c r =>
    have b0 : bt x (P.length : Int) = (c.toNat : Int) := hbt 0 (by simp)
    have hlen : (c :: r).length = r.length + 1 := List.length_cons
    rw [oneL]
    by_cases h92 : c.toNat = 92
    ·rw [if_pos h92]
     cases r with
     | nil =>
      refine Ev.step (f := fun _ => some ((⟨#[]⟩ : ByteArray), false)) (fun k => ?_) (Ev.now _)
      rw [orielref26_Unquote.l0, ez, ei, if_pos (by rw [hz, hlen]; omega), if_pos (by omega), if_pos (by omega), if_pos (by omega), if_pos (by rw [hz, hlen, List.length_nil]; omega)]
     | cons d r2 =>
      have b1 : bt x ((P.length + 1 : Nat) : Int) = (d.toNat : Int) := hbt 1 (by simp)
      have hlen2 : (c :: d :: r2).length = r2.length + 2 := by rw [List.length_cons, List.length_cons]
      have hd := d.toNat_lt
      rw [esc]
      by_cases h110 : d.toNat = 110
      ·rw [if_pos h110]
       have hn := next 10 2 (by omega) (by omega)
       refine Ev.step (fun k => ?_) hn
       rw [orielref26_Unquote.l0, ez, ei, if_pos (by omega), if_pos (by omega), if_pos (by omega), if_pos (by omega), if_neg (by omega), if_pos (by omega), if_pos (by omega), if_pos (by omega), Option.bind_some, show strOfNums [(10 : Int)] = ofL [10] from rfl, if_pos (by rw [ofL_size, ofL_size, List.length_singleton]; omega), ei2, ofL_ofL]
      ·rw [if_neg h110]
       have two : Ev (fun k => orielref26_Unquote.j2 k x (ofL out) ((P.length + 1 : Nat) : Int) (d.toNat : Int) true) (endR x (unL n ((c :: d :: r2).drop 2) (out ++ [d]))) := by
        have hn := next d 2 (by omega) (by omega)
        refine Ev.step (fun k => ?_) hn
        have ex : x.extract (P.length + 1) (P.length + 2) = ofL [d] := by
         refine bs_ext ?_
         rw [bs_extract, bs_ofL, hb, show P.length + 2 - (P.length + 1) = 1 by omega, List.append_assoc, ← List.drop_drop, List.drop_left]
         rfl
        rw [orielref26_Unquote.j2, if_pos rfl, ei2, if_pos (by omega), if_pos (by omega), if_pos (by omega), Int.toNat_natCast, Int.toNat_natCast, ex, if_pos (by rw [ofL_size, ofL_size, List.length_singleton]; omega), ofL_ofL]
       by_cases h34 : d.toNat = 34
       ·rw [if_pos (Or.inl h34)]
        refine Ev.step (fun k => ?_) two
        rw [orielref26_Unquote.l0, ez, ei, if_pos (by omega), if_pos (by omega), if_pos (by omega), if_pos (by omega), if_neg (by omega), if_pos (by omega), if_pos (by omega), if_neg (by omega), if_pos (by omega), b1]
       ·have hl0 : ∀ k, orielref26_Unquote.l0 (k + 1) x (ofL out) (P.length : Int) = orielref26_Unquote.j2 k x (ofL out) ((P.length + 1 : Nat) : Int) (d.toNat : Int) ((d.toNat : Int) == 92) := fun k => by
         rw [orielref26_Unquote.l0, ez, ei, if_pos (by omega), if_pos (by omega), if_pos (by omega), if_pos (by omega), if_neg (by omega), if_pos (by omega), if_pos (by omega), if_neg (by omega), if_neg (by omega), b1]
        by_cases h92' : d.toNat = 92
        ·rw [if_pos (Or.inr h92')]
         refine Ev.step hl0 ?_
         rw [show ((d.toNat : Int) == 92) = true from beq_iff_eq.mpr (by omega)]
         exact two
        ·rw [if_neg (by omega)]
         refine Ev.step hl0 ?_
         rw [show ((d.toNat : Int) == 92) = false from beq_eq_false_iff_ne.mpr (by omega)]
         have three : Ev (fun k => orielref26_Unquote.j3 k x (ofL out) ((P.length + 1 : Nat) : Int) false) ((⟨#[]⟩ : ByteArray), false) := Ev.step (f := fun _ => some ((⟨#[]⟩ : ByteArray), false)) (fun k => by rw [orielref26_Unquote.j3, if_neg (by decide)]) (Ev.now _)
         by_cases h120 : d.toNat = 120
         ·rw [if_pos h120]
          have ei3 : wrap64 (((P.length + 1 : Nat) : Int) + 2) = ((P.length + 3 : Nat) : Int) := wadd2 _ (by omega)
          have no : r2.length < 2 → Ev (fun k => orielref26_Unquote.j2 k x (ofL out) ((P.length + 1 : Nat) : Int) (d.toNat : Int) false) ((⟨#[]⟩ : ByteArray), false) := fun h => by
           refine Ev.step (fun k => ?_) three
           rw [orielref26_Unquote.j2, if_neg (by decide), if_pos (by omega), ei3, ez, if_neg (by omega)]
          cases r2 with
          | nil => exact no (by decide)
          | cons a r3 =>
           cases r3 with
           | nil => exact no (by simp)
           | cons b r4 =>
            have hlen4 : (c :: d :: a :: b :: r4).length = r4.length + 4 := by simp only [List.length_cons]
            have b2 : bt x ((P.length + 2 : Nat) : Int) = (a.toNat : Int) := hbt 2 (by simp)
            have b3 : bt x ((P.length + 3 : Nat) : Int) = (b.toNat : Int) := hbt 3 (by simp)
            have hz4 : x.size = P.length + r4.length + 5 := by rw [hz, hlen4]; omega
            clear hz hlen hlen2 hlen4 hs hbt no e b1 b0 hb ih
            show Ev _ (endR x (match pairH (hexv a) (hexv b) with
             | none => none
             | some t => unL n ((c :: d :: a :: b :: r4).drop t.2) (out ++ [t.1])))
            refine Ev.step (f := fun k => (orielref26_hex.f k (a.toNat : Int)).bind fun t209 => (if t209 ≥ 0 then ((orielref26_hex.f k (b.toNat : Int)).bind fun t210 => (orielref26_Unquote.j3 k x (ofL out) ((P.length + 1 : Nat) : Int) (decide (t210 ≥ 0)))) else (orielref26_Unquote.j3 k x (ofL out) ((P.length + 1 : Nat) : Int) false))) (fun k => ?_) ?_
            ·rw [orielref26_Unquote.j2, if_neg (by decide), if_pos (by omega), ei3, ei2, ez, if_pos (by omega), if_pos (by omega), if_pos (by omega), b2]
             congr 1
             funext t
             by_cases ht : t ≥ 0
             ·rw [if_pos ht, if_pos ht, if_pos (by omega), if_pos (by omega), b3]
             ·rw [if_neg ht, if_neg ht]
            ·refine Ev.bind (f := fun k t209 => if t209 ≥ 0 then ((orielref26_hex.f k (b.toNat : Int)).bind fun t210 => (orielref26_Unquote.j3 k x (ofL out) ((P.length + 1 : Nat) : Int) (decide (t210 ≥ 0)))) else (orielref26_Unquote.j3 k x (ofL out) ((P.length + 1 : Nat) : Int) false)) (hex_ev a) ?_
             cases ha : hexv a with
             | none => exact Ev.ite_neg (by decide) three
             | some va =>
              refine Ev.ite_pos (Int.natCast_nonneg va) ?_
              refine Ev.bind (f := fun k t210 => orielref26_Unquote.j3 k x (ofL out) ((P.length + 1 : Nat) : Int) (decide (t210 ≥ 0))) (hex_ev b) ?_
              cases hbb : hexv b with
              | none =>
               show Ev (fun k => orielref26_Unquote.j3 k x (ofL out) ((P.length + 1 : Nat) : Int) (decide ((-1 : Int) ≥ 0))) _
               rw [decide_eq_false (by decide)]
               exact three
              | some vb =>
               show Ev (fun k => orielref26_Unquote.j3 k x (ofL out) ((P.length + 1 : Nat) : Int) (decide ((vb : Int) ≥ 0))) _
               rw [decide_eq_true (Int.natCast_nonneg vb)]
               have l1 := hexv_lt ha
               have l2 := hexv_lt hbb
               have hn := next (UInt8.ofNat (16 * va + vb)) 4 (by decide) (by simp)
               have ei4 : wrap64 (((P.length + 3 : Nat) : Int) + 1) = ((P.length + 4 : Nat) : Int) := wsucc _ (by omega)
               have ha' := hex_ev a
               have hb' := hex_ev b
               rw [ha] at ha'
               rw [hbb] at hb'
               refine Ev.step (f := fun k => (orielref26_hex.f k (a.toNat : Int)).bind fun t211 => (orielref26_hex.f k (b.toNat : Int)).bind fun t212 => if (ofL out).size + (strOfNums [(wrap64 ((wrap64 (16 * t211)) + t212)) % 256]).size ≤ 9223372036854775807 then orielref26_Unquote.l0 k x (ofL out ++ strOfNums [(wrap64 ((wrap64 (16 * t211)) + t212)) % 256]) ((P.length + 4 : Nat) : Int) else none) (fun k => ?_) ?_
               ·have u1 : (0 : Int) ≤ ((P.length + 2 : Nat) : Int) := Int.natCast_nonneg _
                have u2 : ((P.length + 2 : Nat) : Int) < (x.size : Int) := by clear ez ei ei2 ei3 ei4; omega
                have u3 : (0 : Int) ≤ ((P.length + 3 : Nat) : Int) := Int.natCast_nonneg _
                have u4 : ((P.length + 3 : Nat) : Int) < (x.size : Int) := by clear ez ei ei2 ei3 ei4; omega
                rw [orielref26_Unquote.j3, if_pos rfl, ei2, ei3, ei4, if_pos u1, if_pos u2, b2, b3]
                congr 1
                funext t
                rw [if_pos u3, if_pos u4]
                rfl
               ·refine Ev.bind (f := fun k t211 => (orielref26_hex.f k (b.toNat : Int)).bind fun t212 => if (ofL out).size + (strOfNums [(wrap64 ((wrap64 (16 * t211)) + t212)) % 256]).size ≤ 9223372036854775807 then orielref26_Unquote.l0 k x (ofL out ++ strOfNums [(wrap64 ((wrap64 (16 * t211)) + t212)) % 256]) ((P.length + 4 : Nat) : Int) else none) ha' ?_
                refine Ev.bind (f := fun k t212 => if (ofL out).size + (strOfNums [(wrap64 ((wrap64 (16 * (va : Int))) + t212)) % 256]).size ≤ 9223372036854775807 then orielref26_Unquote.l0 k x (ofL out ++ strOfNums [(wrap64 ((wrap64 (16 * (va : Int))) + t212)) % 256]) ((P.length + 4 : Nat) : Int) else none) hb' ?_
                rw [hexsum va vb l1 l2, nums1 _ (by clear ez ei ei2 ei3 ei4; omega), ofL_ofL]
                exact Ev.ite_pos (by rw [ofL_size, ofL_size, List.length_singleton]; clear ez ei ei2 ei3 ei4; omega) hn
         ·rw [if_neg h120]
          refine Ev.step (fun k => ?_) three
          rw [orielref26_Unquote.j2, if_neg (by decide), if_neg (by omega)]
    ·rw [if_neg h92]
     have hn := next c 1 (by omega) (by omega)
     refine Ev.step (fun k => ?_) hn
     have ex : x.extract P.length (P.length + 1) = ofL [c] := by
      refine bs_ext ?_
      rw [bs_extract, bs_ofL, hb, show P.length + 1 - P.length = 1 by omega, List.append_assoc, List.drop_left]
      rfl
     rw [orielref26_Unquote.l0, ez, ei, if_pos (by omega), if_pos (by omega), if_pos (by omega), if_neg (by omega), if_pos (by omega), if_pos (by omega), Int.toNat_natCast, Int.toNat_natCast, ex, if_pos (by rw [ofL_size, ofL_size, List.length_singleton]; omega), ofL_ofL]
theorem RUnquote_ev (s : ByteArray) (hs : s.size ≤ 1000000) : Ev (fun k => orielref26_Unquote.f k s) (unqR s) := by
 have no : Ev (fun k => orielref26_Unquote.j0 k s true) ((⟨#[]⟩ : ByteArray), false) := Ev.step (f := fun _ => some ((⟨#[]⟩ : ByteArray), false)) (fun k => by rw [orielref26_Unquote.j0, if_pos rfl]) (Ev.now _)
 unfold orielref26_Unquote.f unqR
 by_cases c : s.size < 2
 ·rw [if_pos (Or.inl c)]
  exact Ev.ite_pos (by omega) no
 ·refine Ev.ite_neg (by omega) (Ev.ite_pos (by omega) ?_)
  by_cases d : bt s 0 = 34
  ·have ez : wrap64 ((s.size : Int) - 1) = (s.size : Int) - 1 := wid (by omega) (by omega)
   simp only [ez]
   refine Ev.ite_pos d (Ev.ite_pos (by omega) (Ev.ite_pos (by omega) ?_))
   by_cases f : bt s ((s.size : Int) - 1) = 34
   ·rw [if_neg (by omega), show (bt s ((s.size : Int) - 1) != 34) = false from bne_eq_false_iff_eq.mpr f]
    obtain ⟨a, l, hl⟩ : ∃ a l, bs s = a :: l := by
     cases h : bs s with
     | nil => exact absurd (congrArg List.length h) (by rw [bs_len, List.length_nil]; omega)
     | cons a l => exact ⟨a, l, rfl⟩
    have hll : l.length + 1 = s.size := by rw [← bs_len, hl]; rfl
    obtain ⟨m, q, hm⟩ : ∃ m q, l = m ++ [q] := by
     cases h : l.reverse with
     | nil =>
      rw [List.reverse_eq_nil_iff] at h
      rw [h, List.length_nil] at hll
      omega
     | cons q r => exact ⟨r.reverse, q, by rw [← List.reverse_reverse l, h, List.reverse_cons]⟩
    have hb : bs s = [a] ++ m ++ [q] := by rw [hl, hm]; rfl
    have hml : m.length + 2 = s.size := by rw [← hll, hm, List.length_append, List.length_singleton]
    have e : ((bs s).drop 1).take (s.size - 2) = m := by
     rw [hl, hm]
     show (m ++ [q]).take (s.size - 2) = m
     rw [show s.size - 2 = m.length by omega, List.take_left]
    rw [e]
    refine Ev.step (f := fun k => orielref26_Unquote.l0 k s (ofL []) (([a] : List UInt8).length : Int)) (fun k => by rw [orielref26_Unquote.j0, if_neg (by decide)]; rfl) ?_
    exact RU_l0 s hs q (s.size + 1) [a] m [] hb (by omega) (by simp)
   ·rw [if_pos (by omega), show (bt s ((s.size : Int) - 1) != 34) = true from bne_iff_ne.mpr f]
    exact no
  ·rw [if_pos (by omega)]
   exact Ev.ite_neg d no
end Go.Proofs.YtnemooemifbbhaaDoor.Dm
namespace Go.Proofs.YtnemooemifbbhaaDoor.Dm
open Go Go.RowKit Go.Proofs.YtnemooemifbbhaaDoorW.PrintWords Go.Proofs.YtnemooemifbbhaaDoorW.PrintLast Go.Proofs.YtnemooemifbbhaaDoorW.PrintMore Go.Proofs.YtnemooemifbbhaaDoor.PDT
set_option linter.unusedVariables false
set_option linter.unusedSimpArgs false
/-! ### numbers -/
theorem numL_ge : ∀ (l : List UInt8) (n : Int), 0 ≤ n → numL l n = -1 ∨ n ≤ numL l n
 | [], n, _ => Or.inr (Int.le_refl _)
 | c :: l, n, h => by
  rw [numL]
  by_cases d : c.toNat < 48 ∨ c.toNat > 57
  ·rw [if_pos d]
   exact Or.inl rfl
  ·rw [if_neg d]
   rcases numL_ge l (10 * n + ((c.toNat : Int) - 48)) (by omega) with h1 | h1
   ·exact Or.inl h1
   ·exact Or.inr (by omega)
theorem num_step (n : Int) (c : UInt8) (h0 : 0 ≤ n) (h1 : n ≤ 1000000000) (hc : ¬ (c.toNat < 48 ∨ c.toNat > 57)) : wrap64 ((wrap64 ((wrap64 (10 * n)) + (wrap64 (c.toNat : Int)))) - 48) = 10 * n + ((c.toNat : Int) - 48) := by
 have := c.toNat_lt
 rw [wid (x := 10 * n) (by omega) (by omega), wid (x := (c.toNat : Int)) (by omega) (by omega), wid (x := 10 * n + (c.toNat : Int)) (by omega) (by omega), wid (by omega) (by omega)]
 omega
theorem Number_l0 (s : ByteArray) (hs : s.size ≤ 9) : ∀ (r : List UInt8) (i : Nat) (n : Int), (bs s).drop i = r → i ≤ s.size → 0 ≤ n → n < 10 ^ i → Ev (fun k => orielref26_Number.l0 k s n (i : Int)) (if numL r n = -1 then 0 else numL r n) := by
 intro r
 induction r with
 | nil =>
  intro i n h hi h0 h1
  have : s.size ≤ i := by rw [← bs_len]; exact List.drop_eq_nil_iff.mp h
  rw [numL, if_neg (by omega)]
  refine Ev.step (f := fun _ => some n) (fun k => ?_) (Ev.now _)
  rw [orielref26_Number.l0, if_neg (by omega)]
 | cons c r ih =>
  intro i n h hi h0 h1
  have hlt : i < s.size := by
   have := congrArg List.length h
   rw [List.length_drop, bs_len, List.length_cons] at this
   omega
  have hr : (bs s).drop (i + 1) = r := by rw [← List.drop_drop, h]; rfl
  have hb := bt_eq s i hlt c r h
  have h9 : (10 : Int) ^ i ≤ 1000000000 := by
   have : ∀ j : Fin 10, (10 : Int) ^ j.val ≤ 1000000000 := by decide
   exact this ⟨i, by omega⟩
  rw [numL]
  by_cases d : c.toNat < 48 ∨ c.toNat > 57
  ·rw [if_pos d, if_pos rfl]
   refine Ev.step (f := fun _ => some 0) (fun k => ?_) (Ev.now _)
   rw [orielref26_Number.l0, if_pos (by omega), if_pos (by omega), hb]
   by_cases e : c.toNat < 48
   ·rw [if_pos (by omega)]
   ·rw [if_neg (by omega), if_pos (by omega)]
  ·rw [if_neg d]
   have hn := ih (i + 1) (10 * n + ((c.toNat : Int) - 48)) hr hlt (by omega) (by rw [Int.pow_succ]; omega)
   have ei : wrap64 ((i : Int) + 1) = ((i + 1 : Nat) : Int) := wsucc i (by omega)
   have en := num_step n c h0 (by omega) d
   refine Ev.step (fun k => ?_) hn
   rw [orielref26_Number.l0, hb, en, ei, if_pos (by clear en ei; omega), if_pos (by clear en ei; omega), if_neg (by clear en ei; omega), if_neg (by clear en ei; omega)]
theorem number_ev (s : ByteArray) (hs : s.size ≤ 1000000) : Ev (fun k => orielref27_number.f k s) (numF s) := by
 have j0t : Ev (fun k => orielref26_Number.j0 k s true) 0 := Ev.step (f := fun _ => some 0) (fun k => by rw [orielref26_Number.j0, if_pos rfl]) (Ev.now _)
 have z : Ev (fun k => orielref26_Number.f k s) 0 → Ev (fun k => (orielref26_Number.f k s).bind fun t217 => if t217 = 0 then some (-1) else some t217) (-1 : Int) := fun h => Ev.bind (f := fun k t217 => if t217 = 0 then some (-1 : Int) else some t217) h (Ev.ite_pos rfl (Ev.now _))
 have hsz := bs_len s
 unfold orielref27_number.f
 rw [toList_eq]
 by_cases c0 : s.data.toList = [48]
 ·refine Ev.ite_pos c0 ?_
  have h1 : s.size = 1 := by rw [← bs_len]; unfold bs; rw [c0]; rfl
  unfold numF
  rw [c0, if_neg (by omega)]
  exact Ev.now _
 ·refine Ev.ite_neg c0 ?_
  unfold numF
  by_cases c1 : s.data.toList = []
  ·have h1 : s.size = 0 := by rw [← bs_len]; unfold bs; rw [c1]; rfl
   rw [if_pos (Or.inl h1)]
   refine z ?_
   unfold orielref26_Number.f
   rw [toList_eq]
   exact Ev.ite_pos c1 j0t
  ·by_cases c2 : s.size > 9
   ·rw [if_pos (Or.inr (Or.inl c2))]
    refine z ?_
    unfold orielref26_Number.f
    rw [toList_eq]
    exact Ev.ite_neg c1 (Ev.ite_pos (by omega) j0t)
   ·cases hl : s.data.toList with
    | nil => exact absurd hl c1
    | cons c r =>
     have hlen : s.size = r.length + 1 := by rw [← bs_len]; unfold bs; rw [hl]; rfl
     have hb : bt s 0 = (c.toNat : Int) := bt_eq s 0 (by omega) c r hl
     have hF : Ev (fun k => orielref26_Number.f k s) (if c.toNat = 48 then 0 else if numL (c :: r) 0 = -1 then 0 else numL (c :: r) 0) := by
      unfold orielref26_Number.f
      rw [toList_eq]
      refine Ev.ite_neg c1 (Ev.ite_neg (by omega) (Ev.ite_pos (by omega) ?_))
      by_cases h48 : c.toNat = 48
      ·rw [if_pos h48, show (bt s 0 == 48) = true from beq_iff_eq.mpr (by omega)]
       exact j0t
      ·rw [if_neg h48, show (bt s 0 == 48) = false from beq_eq_false_iff_ne.mpr (by omega)]
       refine Ev.step (fun k => ?_) (Number_l0 s (by omega) (c :: r) 0 0 hl (Nat.zero_le _) (Int.le_refl _) (by decide))
       rw [orielref26_Number.j0, if_neg (by decide)]
       rfl
     by_cases h48 : c.toNat = 48
     ·rw [if_pos h48] at hF
      have hr : r ≠ [] := fun e => c0 (by rw [hl, e, UInt8.toNat_inj.mp (show c.toNat = (48 : UInt8).toNat from h48)])
      have : 0 < r.length := List.length_pos_iff.mpr hr
      rw [if_pos (Or.inr (Or.inr ⟨by omega, h48⟩))]
      exact z hF
     ·rw [if_neg h48] at hF
      rw [if_neg (by
       rintro (h | h | ⟨_, h⟩)
       ·omega
       ·exact c2 h
       ·exact h48 h)]
      by_cases hm : numL (c :: r) 0 = -1
      ·rw [if_pos hm] at hF
       rw [hm]
       exact z hF
      ·rw [if_neg hm] at hF
       refine Ev.bind (f := fun k t217 => if t217 = 0 then some (-1 : Int) else some t217) hF (Ev.ite_neg ?_ (Ev.now _))
       rw [numL] at hm ⊢
       by_cases d : c.toNat < 48 ∨ c.toNat > 57
       ·rw [if_pos d] at hm
        exact absurd rfl hm
       ·rw [if_neg d] at hm ⊢
        rcases numL_ge r (10 * 0 + ((c.toNat : Int) - 48)) (by omega) with h1 | h1
        ·exact absurd h1 hm
        ·omega
/-! ### the first blank -/
theorem blank_l0 (s : ByteArray) (hs : s.size ≤ 1000000) : ∀ (r : List UInt8) (i : Nat), (bs s).drop i = r → i ≤ s.size → Ev (fun k => orielref27_blank.l0 k s (i : Int)) (if Lib.indexByte r 32 = -1 then -1 else (i : Int) + Lib.indexByte r 32) := by
 intro r
 induction r with
 | nil =>
  intro i h hi
  have : s.size ≤ i := by rw [← bs_len]; exact List.drop_eq_nil_iff.mp h
  refine Ev.step (f := fun _ => some (-1)) (fun k => ?_) (Ev.now _)
  rw [orielref27_blank.l0, if_neg (by omega)]
 | cons c r ih =>
  intro i h hi
  have hlt : i < s.size := by
   have := congrArg List.length h
   rw [List.length_drop, bs_len, List.length_cons] at this
   omega
  have hr : (bs s).drop (i + 1) = r := by rw [← List.drop_drop, h]; rfl
  have hb := bt_eq s i hlt c r h
  have hn := ih (i + 1) hr hlt
  have ei : wrap64 ((i : Int) + 1) = ((i + 1 : Nat) : Int) := wsucc i (by omega)
  have hge := Lib.indexByte_ge r 32
  by_cases d : c = 32
  ·subst d
   have hb2 : bt s (i : Int) = 32 := hb
   have hI : Lib.indexByte (32 :: r) 32 = 0 := by rw [Lib.indexByte, if_pos (by decide)]
   rw [hI, if_neg (by decide), Int.add_zero]
   refine Ev.step (f := fun _ => some (i : Int)) (fun k => ?_) (Ev.now _)
   rw [orielref27_blank.l0, if_pos (by clear ei; omega), if_pos (by clear ei; omega), if_pos hb2]
  ·have hne : ¬ bt s (i : Int) = 32 := fun e => d (UInt8.toNat_inj.mp (by rw [hb] at e; exact Int.ofNat.inj e))
   refine Ev.step (f := fun k => orielref27_blank.l0 k s ((i + 1 : Nat) : Int)) (fun k => ?_) ?_
   ·rw [orielref27_blank.l0, ei, if_pos (by clear ei; omega), if_pos (by clear ei; omega), if_neg hne]
   ·by_cases e : Lib.indexByte r 32 = -1
    ·have hI : Lib.indexByte (c :: r) 32 = -1 := by rw [Lib.indexByte, if_neg (by simpa using d), if_pos (by rw [e]; rfl)]
     rw [if_pos e] at hn
     rw [hI, if_pos rfl]
     exact hn
    ·have hI : Lib.indexByte (c :: r) 32 = Lib.indexByte r 32 + 1 := by rw [Lib.indexByte, if_neg (by simpa using d), if_neg (by simpa using e)]
     rw [if_neg e] at hn
     rw [hI, if_neg (by clear ei; omega), show (i : Int) + (Lib.indexByte r 32 + 1) = ((i + 1 : Nat) : Int) + Lib.indexByte r 32 by clear ei; omega]
     exact hn
theorem blank_ev (s : ByteArray) (hs : s.size ≤ 1000000) : Ev (fun k => orielref27_blank.f k s) (Lib.indexByte (bs s) 32) := by
 have h := blank_l0 s hs (bs s) 0 rfl (Nat.zero_le _)
 have e : (if Lib.indexByte (bs s) 32 = -1 then -1 else ((0 : Nat) : Int) + Lib.indexByte (bs s) 32) = Lib.indexByte (bs s) 32 := by
  split
  ·next h => exact h.symm
  ·exact Int.zero_add _
 rw [e] at h
 exact h
theorem idx_lt (l : List UInt8) (c : UInt8) : Lib.indexByte l c < (l.length : Int) ∨ l = [] := by
 induction l with
 | nil => exact Or.inr rfl
 | cons a l ih =>
  left
  rw [Lib.indexByte, List.length_cons]
  split
  ·omega
  ·split
   ·omega
   ·rcases ih with h | h
    ·omega
    ·subst h
     rw [Lib.indexByte]
     decide
theorem idx_lt' (l : List UInt8) (c : UInt8) (h : 0 ≤ Lib.indexByte l c) : (Lib.indexByte l c).toNat < l.length := by
 rcases idx_lt l c with h1 | h1
 ·omega
 ·subst h1
  rw [Lib.indexByte] at h
  exact absurd h (by decide)
/-! ### a line -/
def lineR (s : ByteArray) : Option S56 :=
 if Lib.indexByte (bs s) 32 < 0 then none else
 if Lib.indexByte (bs (s.extract ((Lib.indexByte (bs s) 32).toNat + 1) s.size)) 32 < 0 then none else
 if (unqR ((s.extract ((Lib.indexByte (bs s) 32).toNat + 1) s.size).extract ((Lib.indexByte (bs (s.extract ((Lib.indexByte (bs s) 32).toNat + 1) s.size)) 32).toNat + 1) (s.extract ((Lib.indexByte (bs s) 32).toNat + 1) s.size).size)).2 = true ∧ 0 ≤ numF (s.extract 0 (Lib.indexByte (bs s) 32).toNat) ∧ 0 ≤ numF ((s.extract ((Lib.indexByte (bs s) 32).toNat + 1) s.size).extract 0 (Lib.indexByte (bs (s.extract ((Lib.indexByte (bs s) 32).toNat + 1) s.size)) 32).toNat)
 then some ⟨numF (s.extract 0 (Lib.indexByte (bs s) 32).toNat), numF ((s.extract ((Lib.indexByte (bs s) 32).toNat + 1) s.size).extract 0 (Lib.indexByte (bs (s.extract ((Lib.indexByte (bs s) 32).toNat + 1) s.size)) 32).toNat), (unqR ((s.extract ((Lib.indexByte (bs s) 32).toNat + 1) s.size).extract ((Lib.indexByte (bs (s.extract ((Lib.indexByte (bs s) 32).toNat + 1) s.size)) 32).toNat + 1) (s.extract ((Lib.indexByte (bs s) 32).toNat + 1) s.size).size)).1⟩ else none
theorem ext_size_le (s : ByteArray) (a b : Nat) : (s.extract a b).size ≤ s.size := by rw [ByteArray.size_extract]; omega
theorem line_ev (s : ByteArray) (hs : s.size ≤ 1000000) : ∃ v : Int × Int × ByteArray × Bool, Ev (fun k => diff_line.f k s) v ∧ (lineR s = none → v.2.2.2 = false) ∧ (∀ x, lineR s = some x → v = (x.f0, x.f1, x.f2, true)) := by
 have cut : ∀ t : ByteArray, t.size ≤ 1000000 → strings_Cut.f t (⟨#[32]⟩ : ByteArray) = some (cutF t) := fun t ht => by
  unfold strings_Cut.f
  rw [if_pos ⟨rfl, by omega⟩]
 have hge := Lib.indexByte_ge (bs s) 32
 have rest : ∀ (a b q : ByteArray) (u v : Bool), q.size ≤ 1000000 → Ev (fun k => (report_Unquote.f k q).bind fun bt167 => ((diff_number.f a).bind fun t169 => ((diff_number.f b).bind fun t170 => (if u = true then (if v = true then (if bt167.2 = true then (if t169 ≥ 0 then (some (t169, t170, bt167.1, decide (t170 ≥ 0))) else (some (t169, t170, bt167.1, false))) else (some (t169, t170, bt167.1, false))) else (some (t169, t170, bt167.1, false))) else (some (t169, t170, bt167.1, false)))))) (numF a, numF b, (unqR q).1, u && v && (unqR q).2 && decide (0 ≤ numF a) && decide (0 ≤ numF b)) := by
  intro a b q u v hq
  refine Ev.bind (f := fun k bt167 => ((diff_number.f a).bind fun t169 => ((diff_number.f b).bind fun t170 => (if u = true then (if v = true then (if bt167.2 = true then (if t169 ≥ 0 then (some (t169, t170, bt167.1, decide (t170 ≥ 0))) else (some (t169, t170, bt167.1, false))) else (some (t169, t170, bt167.1, false))) else (some (t169, t170, bt167.1, false))) else (some (t169, t170, bt167.1, false)))))) (Unquote_ev q (by omega)) ?_
  unfold diff_number.f
  refine Ev.congr (f := fun _ => some _) (fun k => ?_) (Ev.now _)
  show (if u = true then _ else _) = _
  cases u with
  | false => rfl
  | true =>
   cases v with
   | false => rfl
   | true =>
    cases (unqR q).2 with
    | false => rfl
    | true =>
     by_cases h : 0 ≤ numF a
     ·show (if numF a ≥ 0 then _ else _) = _
      rw [if_pos h, decide_eq_true h]
      rfl
     ·show (if numF a ≥ 0 then _ else _) = _
      rw [if_neg h, decide_eq_false h]
      rfl
 have hs1 := ext_size_le s ((Lib.indexByte (bs s) 32).toNat + 1) s.size
 unfold diff_line.f lineR
 rw [cut s hs]
 simp only [Option.bind_some]
 by_cases c1 : Lib.indexByte (bs s) 32 < 0
 ·have e1 : cutF s = (s, ⟨#[]⟩, false) := by
   unfold cutF
   rw [if_neg (show ¬ (0 ≤ Lib.indexByte s.data.toList 32) from by show ¬ (0 ≤ Lib.indexByte (bs s) 32); omega)]
  rw [if_pos c1, e1]
  simp only [cut (⟨#[]⟩ : ByteArray) (by decide), Option.bind_some]
  refine ⟨_, rest s (cutF (⟨#[]⟩ : ByteArray)).1 (cutF (⟨#[]⟩ : ByteArray)).2.1 false (cutF (⟨#[]⟩ : ByteArray)).2.2 (by decide), fun _ => rfl, fun x h => by cases h⟩
 ·have e1 : cutF s = (s.extract 0 (Lib.indexByte (bs s) 32).toNat, s.extract ((Lib.indexByte (bs s) 32).toNat + 1) s.size, true) := by
   unfold cutF
   rw [if_pos (show 0 ≤ Lib.indexByte s.data.toList 32 from by show 0 ≤ Lib.indexByte (bs s) 32; omega)]
   rfl
  rw [if_neg c1, e1]
  generalize s.extract 0 (Lib.indexByte (bs s) 32).toNat = a
  generalize s.extract ((Lib.indexByte (bs s) 32).toNat + 1) s.size = rs at hs1 ⊢
  simp only [cut rs (by omega), Option.bind_some]
  have hs2 := ext_size_le rs ((Lib.indexByte (bs rs) 32).toNat + 1) rs.size
  by_cases c2 : Lib.indexByte (bs rs) 32 < 0
  ·have e2 : cutF rs = (rs, ⟨#[]⟩, false) := by
    unfold cutF
    rw [if_neg (show ¬ (0 ≤ Lib.indexByte rs.data.toList 32) from by show ¬ (0 ≤ Lib.indexByte (bs rs) 32); omega)]
   rw [if_pos c2, e2]
   refine ⟨_, rest a rs (⟨#[]⟩ : ByteArray) true false (by decide), fun _ => rfl, fun x h => by cases h⟩
  ·have e2 : cutF rs = (rs.extract 0 (Lib.indexByte (bs rs) 32).toNat, rs.extract ((Lib.indexByte (bs rs) 32).toNat + 1) rs.size, true) := by
    unfold cutF
    rw [if_pos (show 0 ≤ Lib.indexByte rs.data.toList 32 from by show 0 ≤ Lib.indexByte (bs rs) 32; omega)]
    rfl
   rw [if_neg c2, e2]
   generalize rs.extract 0 (Lib.indexByte (bs rs) 32).toNat = b
   generalize rs.extract ((Lib.indexByte (bs rs) 32).toNat + 1) rs.size = q at hs2 ⊢
   refine ⟨_, rest a b q true true (by omega), ?_, ?_⟩
   ·intro h
    by_cases d : (unqR q).2 = true ∧ 0 ≤ numF a ∧ 0 ≤ numF b
    ·rw [if_pos d] at h
     cases h
    ·show (true && true && (unqR q).2 && decide (0 ≤ numF a) && decide (0 ≤ numF b)) = false
     cases h1 : (unqR q).2 with
     | false => rfl
     | true =>
      by_cases h2 : 0 ≤ numF a
      ·by_cases h3 : 0 ≤ numF b
       ·exact absurd ⟨h1, h2, h3⟩ d
       ·rw [decide_eq_false h3, Bool.and_false]
      ·rw [decide_eq_false h2, Bool.and_false, Bool.false_and]
   ·intro x h
    by_cases d : (unqR q).2 = true ∧ 0 ≤ numF a ∧ 0 ≤ numF b
    ·rw [if_pos d] at h
     obtain rfl := Option.some.inj h
     rw [d.1, decide_eq_true d.2.1, decide_eq_true d.2.2]
     rfl
    ·rw [if_neg d] at h
     cases h
end Go.Proofs.YtnemooemifbbhaaDoor.Dm
namespace Go.Proofs.YtnemooemifbbhaaDoor.Dm
open Go Go.RowKit Go.Proofs.YtnemooemifbbhaaDoorW.PrintWords Go.Proofs.YtnemooemifbbhaaDoorW.PrintLast Go.Proofs.YtnemooemifbbhaaDoorW.PrintMore Go.Proofs.YtnemooemifbbhaaDoor.PDT
set_option linter.unusedVariables false
set_option linter.unusedSimpArgs false
def readR : List ByteArray → Option (List S56)
 | [] => some []
 | x :: r => if bt x ((x.size : Int) - 1) = 10 then (match lineR (x.extract 0 (x.size - 1)) with
   | none => none
   | some e => (match readR r with
    | none => none
    | some l => some (e :: l))) else none
def readE (acc : List S56) : Option (List S56) → List S56 × Bool
 | none => ([], false)
 | some l => (acc ++ l, true)
theorem rdOf_mid (pre : List ByteArray) (x : ByteArray) (r : List ByteArray) : rdOf ByteArray.empty (pre ++ x :: r) (pre.length : Int) = x := by
 unfold rdOf
 rw [List.getD_eq_getElem?_getD]
 simp
theorem bt_last (x : ByteArray) (h : 0 < x.size) : ∃ w c, bs x = w ++ [c] ∧ w.length + 1 = x.size ∧ bt x ((x.size : Int) - 1) = (c.toNat : Int) ∧ x.extract 0 (x.size - 1) = ofL w ∧ x.extract (x.size - 1) x.size = ofL [c] := by
 obtain ⟨w, c, hw⟩ : ∃ w c, bs x = w ++ [c] := by
  cases h1 : (bs x).reverse with
  | nil =>
   rw [List.reverse_eq_nil_iff] at h1
   have := bs_len x
   rw [h1, List.length_nil] at this
   omega
  | cons q r => exact ⟨r.reverse, q, by rw [← List.reverse_reverse (bs x), h1, List.reverse_cons]⟩
 have hl : w.length + 1 = x.size := by rw [← bs_len, hw, List.length_append, List.length_singleton]
 refine ⟨w, c, hw, hl, ?_, ?_, ?_⟩
 ·rw [show (x.size : Int) - 1 = (w.length : Int) by omega]
  exact bt_eq x w.length (by omega) c [] (by rw [hw, List.drop_left])
 ·refine bs_ext ?_
  rw [bs_extract, bs_ofL, hw, List.drop_zero, show x.size - 1 - 0 = w.length by omega, List.take_left]
 ·refine bs_ext ?_
  rw [bs_extract, bs_ofL, hw, show x.size - 1 = w.length by omega, List.drop_left, show x.size - w.length = 1 by omega]
  rfl
theorem cutsuf (x : ByteArray) (h : 0 < x.size) (hs : x.size ≤ 1000000) : strings_CutSuffix.f x (⟨#[10]⟩ : ByteArray) = some (if bt x ((x.size : Int) - 1) = 10 then (x.extract 0 (x.size - 1), true) else (x, false)) := by
 obtain ⟨w, c, h1, h2, h3, h4, h5⟩ := bt_last x h
 have e1 : (((⟨#[10]⟩ : ByteArray).size : Nat) : Int) = 1 := rfl
 have e2 : wrap64 ((x.size : Int) - 1) = ((x.size - 1 : Nat) : Int) := by rw [wid (by omega) (by omega)]; omega
 have hh : stringslite_HasSuffix.f x (⟨#[10]⟩ : ByteArray) = some (decide (bt x ((x.size : Int) - 1) = 10)) := by
  unfold stringslite_HasSuffix.f
  rw [e1, e2, if_pos (by clear e2; omega), if_pos (by clear e2; omega), if_pos (by clear e2; omega), Int.toNat_natCast, h5, h3]
  congr 1
  rw [toList_eq, toList_eq]
  show ([c] == [10]) = _
  by_cases d : c = 10
  ·subst d
   rfl
  ·rw [beq_eq_false_iff_ne.mpr (by simpa using d)]
   exact (decide_eq_false (fun e => d (UInt8.toNat_inj.mp (Int.ofNat.inj e)))).symm
 unfold strings_CutSuffix.f stringslite_CutSuffix.f
 rw [hh, Option.bind_some]
 by_cases d : bt x ((x.size : Int) - 1) = 10
 ·rw [decide_eq_true d, if_pos rfl, e1, e2, if_pos (by clear e2; omega), if_pos (by clear e2; omega), Int.toNat_natCast, if_pos d]
  rfl
 ·rw [decide_eq_false d, if_neg (by decide), if_neg d]
  rfl
theorem Read_l0 (L : List ByteArray) (hL : L.length ≤ 1000000) (hne : ∀ x ∈ L, 0 < x.size ∧ x.size ≤ 1000000) : ∀ (r pre : List ByteArray) (acc : List S56), L = pre ++ r → acc.length = pre.length →
  Ev (fun k => diff_Read.l0 k acc L (L.length : Int) (pre.length : Int)) (readE acc (readR r)) := by
 intro r
 induction r with
 | nil =>
  intro pre acc he ha
  have hp : L.length = pre.length := by rw [he, List.append_nil]
  refine Ev.step (f := fun _ => some (acc, true)) (fun k => ?_) (by rw [readR, readE, List.append_nil]; exact Ev.now _)
  rw [diff_Read.l0, if_neg (by omega)]
 | cons x r ih =>
  intro pre acc he ha
  have hp : L.length = pre.length + r.length + 1 := by rw [he, List.length_append, List.length_cons]; omega
  have hx := hne x (by rw [he]; simp)
  have e1 : rdOf ByteArray.empty L (pre.length : Int) = x := by rw [he]; exact rdOf_mid pre x r
  have ei : wrap64 ((pre.length : Int) + 1) = ((pre.length + 1 : Nat) : Int) := wsucc _ (by omega)
  refine Ev.step (f := fun k => ((strings_CutSuffix.f x (⟨#[10]⟩ : ByteArray)).bind fun bt176 => ((diff_line.f k bt176.1).bind fun bt178 => (if bt176.2 = true then (if bt178.2.2.2 = true then (if acc.length < 4398046511104 then (diff_Read.l0 k (acc ++ [(⟨bt178.1, bt178.2.1, bt178.2.2.1⟩ : S56)]) L (L.length : Int) ((pre.length + 1 : Nat) : Int)) else (none)) else (some (([] : List (S56)), false))) else (some (([] : List (S56)), false)))))) (fun k => ?_) ?_
  ·rw [diff_Read.l0, if_pos (by clear ei; omega), if_pos (by clear ei; omega), if_pos (by clear ei; omega), e1, ei]
  ·rw [cutsuf x hx.1 hx.2]
   simp only [Option.bind_some]
   rw [readR]
   by_cases c : bt x ((x.size : Int) - 1) = 10
   ·rw [if_pos c, if_pos c]
    have hsz := ext_size_le x 0 (x.size - 1)
    obtain ⟨v, hv, h0, h1⟩ := line_ev (x.extract 0 (x.size - 1)) (by omega)
    refine Ev.bind (f := fun k bt178 => (if true = true then (if bt178.2.2.2 = true then (if acc.length < 4398046511104 then (diff_Read.l0 k (acc ++ [(⟨bt178.1, bt178.2.1, bt178.2.2.1⟩ : S56)]) L (L.length : Int) ((pre.length + 1 : Nat) : Int)) else (none)) else (some (([] : List (S56)), false))) else (some (([] : List (S56)), false)))) hv ?_
    refine Ev.ite_pos rfl ?_
    cases hl : lineR (x.extract 0 (x.size - 1)) with
    | none => exact Ev.ite_neg (by rw [h0 hl]; decide) (Ev.now _)
    | some e =>
     rw [h1 e hl]
     refine Ev.ite_pos rfl (Ev.ite_pos (by clear ei; omega) ?_)
     have hn := ih (pre ++ [x]) (acc ++ [e]) (by rw [he, List.append_assoc]; rfl) (by rw [List.length_append, List.length_append, ha]; rfl)
     rw [show (pre ++ [x]).length = pre.length + 1 by rw [List.length_append, List.length_singleton]] at hn
     have : readE (acc ++ [e]) (readR r) = readE acc (match readR r with
      | none => none
      | some l => some (e :: l)) := by
      cases readR r with
      | none => rfl
      | some l => show (acc ++ [e] ++ l, true) = (acc ++ e :: l, true); rw [List.append_assoc]; rfl
     rw [this] at hn
     exact hn
   ·rw [if_neg c, if_neg c]
    obtain ⟨v, hv, h0, h1⟩ := line_ev x hx.2
    refine Ev.bind (f := fun k bt178 => (if false = true then (if bt178.2.2.2 = true then (if acc.length < 4398046511104 then (diff_Read.l0 k (acc ++ [(⟨bt178.1, bt178.2.1, bt178.2.2.1⟩ : S56)]) L (L.length : Int) ((pre.length + 1 : Nat) : Int)) else (none)) else (some (([] : List (S56)), false))) else (some (([] : List (S56)), false)))) hv ?_
    exact Ev.ite_neg (by decide) (Ev.now _)
theorem lines_size (s : ByteArray) : ∀ x ∈ lines s, x.size ≤ s.size := by
 intro x hx
 have h := lines_flat s
 obtain ⟨a, b, hab⟩ := List.append_of_mem hx
 have := congrArg List.length h
 rw [hab, List.map_append, List.map_cons, List.flatten_append, List.flatten_cons, List.length_append, List.length_append, bs_len, bs_len] at this
 omega
theorem Read_ev (s : ByteArray) (hs : s.size ≤ 900000) : Ev (fun k => diff_Read.f k s) (readE [] (readR (lines s))) := by
 have hl := lines_len s
 unfold diff_Read.f
 refine Ev.bind (f := fun k t172 => diff_Read.l0 k ([] : List (S56)) t172 (t172.length : Int) 0) (Lines_ev s hs) ?_
 exact Read_l0 (lines s) (by omega) (fun x hx => ⟨lines_ne s x hx, by have := lines_size s x hx; omega⟩) (lines s) [] [] rfl rfl
/-! ### the document's -/
theorem RRead_l0 (L : List ByteArray) (hL : L.length ≤ 1000000) (hne : ∀ x ∈ L, 0 < x.size ∧ x.size ≤ 1000000) : ∀ (r pre : List ByteArray) (acc : List S56), L = pre ++ r → acc.length = pre.length →
  Ev (fun k => orielref27_Read.l0 k L acc (pre.length : Int)) (readE acc (readR r)) := by
 intro r
 induction r with
 | nil =>
  intro pre acc he ha
  have hp : L.length = pre.length := by rw [he, List.append_nil]
  refine Ev.step (f := fun _ => some (acc, true)) (fun k => ?_) (by rw [readR, readE, List.append_nil]; exact Ev.now _)
  rw [orielref27_Read.l0, if_neg (by omega)]
 | cons x r ih =>
  intro pre acc he ha
  have hp : L.length = pre.length + r.length + 1 := by rw [he, List.length_append, List.length_cons]; omega
  have hx := hne x (by rw [he]; simp)
  have e1 : rdOf ByteArray.empty L (pre.length : Int) = x := by rw [he]; exact rdOf_mid pre x r
  have ei : wrap64 ((pre.length : Int) + 1) = ((pre.length + 1 : Nat) : Int) := wsucc _ (by omega)
  have e2 : wrap64 ((x.size : Int) - 1) = ((x.size - 1 : Nat) : Int) := by rw [wid (by omega) (by omega)]; omega
  have e3 : ((x.size - 1 : Nat) : Int) = (x.size : Int) - 1 := by omega
  have jt : ∀ (f : ByteArray) (a b : Int), Ev (fun k => orielref27_Read.j1 k L acc (pre.length : Int) f a b true) (([] : List S56), false) := fun f a b => Ev.step (f := fun _ => some (([] : List S56), false)) (fun k => by rw [orielref27_Read.j1, if_pos rfl]) (Ev.now _)
  refine Ev.step (fun k => orielref27_Read.l0.eq_2 L acc (pre.length : Int) k) ?_
  simp only [e1, e2, Int.toNat_natCast]
  refine Ev.ite_pos (by clear ei e2; omega) (Ev.ite_pos (by clear ei e2; omega) (Ev.ite_pos (by clear ei e2; omega) (Ev.ite_pos (by clear ei e2; omega) ?_)))
  rw [readR]
  by_cases c : bt x ((x.size : Int) - 1) = 10
  ·refine Ev.ite_pos (by rw [e3]; exact c) (Ev.ite_pos (by clear ei e2; omega) ?_)
   rw [if_pos c]
   have hs0 : (x.extract 0 (x.size - 1)).size ≤ 1000000 := by have := ext_size_le x 0 (x.size - 1); clear ei e2; omega
   unfold lineR
   generalize x.extract 0 (x.size - 1) = s at hs0 ⊢
   clear e1 e2 e3 c
   have hge := Lib.indexByte_ge (bs s) 32
   refine Ev.bind (f := fun k t222 => _) (blank_ev s hs0) ?_
   by_cases c1 : Lib.indexByte (bs s) 32 < 0
   ·rw [if_pos c1]
    exact Ev.ite_pos c1 (Ev.now _)
   ·rw [if_neg c1]
    refine Ev.ite_neg c1 ?_
    have hi := idx_lt' (bs s) 32 (by omega)
    rw [bs_len] at hi
    obtain ⟨i, hI⟩ : ∃ i : Nat, Lib.indexByte (bs s) 32 = (i : Int) := ⟨(Lib.indexByte (bs s) 32).toNat, by omega⟩
    rw [hI] at hi ⊢
    rw [Int.toNat_natCast] at hi ⊢
    have ew : wrap64 ((i : Int) + 1) = ((i + 1 : Nat) : Int) := wsucc _ (by omega)
    have hs1 := ext_size_le s (i + 1) s.size
    simp only [ew, Int.toNat_natCast]
    refine Ev.ite_pos (Int.natCast_nonneg _) (Ev.ite_pos (by clear ei ew; omega) ?_)
    generalize s.extract (i + 1) s.size = rs at hs1 ⊢
    have hge2 := Lib.indexByte_ge (bs rs) 32
    refine Ev.bind (f := fun k t223 => _) (blank_ev rs (by clear ei ew; omega)) ?_
    by_cases c2 : Lib.indexByte (bs rs) 32 < 0
    ·rw [if_pos c2]
     exact Ev.ite_pos c2 (Ev.now _)
    ·rw [if_neg c2]
     refine Ev.ite_neg c2 ?_
     have hj := idx_lt' (bs rs) 32 (by clear ei ew; omega)
     rw [bs_len] at hj
     obtain ⟨j, hJ⟩ : ∃ j : Nat, Lib.indexByte (bs rs) 32 = (j : Int) := ⟨(Lib.indexByte (bs rs) 32).toNat, by clear ei ew; omega⟩
     rw [hJ] at hj ⊢
     rw [Int.toNat_natCast] at hj ⊢
     have ew2 : wrap64 ((j : Int) + 1) = ((j + 1 : Nat) : Int) := wsucc _ (by clear ei ew; omega)
     have hs2 := ext_size_le rs (j + 1) rs.size
     have hs3 := ext_size_le s 0 i
     have hs4 := ext_size_le rs 0 j
     simp only [ew2, Int.toNat_natCast]
     refine Ev.ite_pos (Int.natCast_nonneg _) (Ev.ite_pos (by clear ei ew ew2; omega) ?_)
     generalize rs.extract (j + 1) rs.size = q at hs2 ⊢
     generalize s.extract 0 i = a at hs3 ⊢
     generalize rs.extract 0 j = b at hs4 ⊢
     refine Ev.bind (f := fun k bt224 => _) (RUnquote_ev q (by clear ei ew ew2; omega)) ?_
     refine Ev.ite_pos (Int.natCast_nonneg _) (Ev.ite_pos (by clear ei ew ew2; omega) ?_)
     refine Ev.bind (f := fun k t226 => _) (number_ev a (by clear ei ew ew2; omega)) ?_
     refine Ev.ite_pos (Int.natCast_nonneg _) (Ev.ite_pos (by clear ei ew ew2; omega) ?_)
     refine Ev.bind (f := fun k t227 => _) (number_ev b (by clear ei ew ew2; omega)) ?_
     by_cases d1 : (unqR q).2 = true
     ·refine Ev.ite_pos d1 ?_
      by_cases d2 : numF a < 0
      ·rw [if_neg (show ¬ ((unqR q).2 = true ∧ 0 ≤ numF a ∧ 0 ≤ numF b) from fun h => by have := h.2.1; clear ei ew ew2; omega)]
       exact Ev.ite_pos d2 (jt _ _ _)
      ·refine Ev.ite_neg d2 ?_
       by_cases d3 : numF b < 0
       ·rw [if_neg (show ¬ ((unqR q).2 = true ∧ 0 ≤ numF a ∧ 0 ≤ numF b) from fun h => by have := h.2.2; clear ei ew ew2; omega), decide_eq_true d3]
        exact jt _ _ _
       ·rw [if_pos (show (unqR q).2 = true ∧ 0 ≤ numF a ∧ 0 ≤ numF b from ⟨d1, by clear ei ew ew2; omega, by clear ei ew ew2; omega⟩), decide_eq_false d3]
        have hn := ih (pre ++ [x]) (acc ++ [⟨numF a, numF b, (unqR q).1⟩]) (by rw [he, List.append_assoc]; rfl) (by rw [List.length_append, List.length_append, ha]; rfl)
        rw [show (pre ++ [x]).length = pre.length + 1 by rw [List.length_append, List.length_singleton]] at hn
        have hre : readE (acc ++ [⟨numF a, numF b, (unqR q).1⟩]) (readR r) = readE acc (match readR r with
         | none => none
         | some l => some ((⟨numF a, numF b, (unqR q).1⟩ : S56) :: l)) := by
         cases readR r with
         | none => rfl
         | some l => show (acc ++ [_] ++ l, true) = (acc ++ _ :: l, true); rw [List.append_assoc]; rfl
        rw [hre] at hn
        refine Ev.step (fun k => ?_) hn
        rw [orielref27_Read.j1, if_neg (by decide), if_pos (by clear ei ew ew2; omega), ei]
     ·rw [if_neg (show ¬ ((unqR q).2 = true ∧ 0 ≤ numF a ∧ 0 ≤ numF b) from fun h => d1 h.1)]
      exact Ev.ite_neg d1 (jt _ _ _)
  ·rw [if_neg c]
   exact Ev.ite_neg (by rw [e3]; exact c) (Ev.now _)
theorem RRead_ev (s : ByteArray) (hs : s.size ≤ 900000) : Ev (fun k => orielref27_Read.f k s) (readE [] (readR (lines s))) := by
 have hl := lines_len s
 unfold orielref27_Read.f
 refine Ev.bind (f := fun k t218 => orielref27_Read.l0 k t218 ([] : List (S56)) 0) (RLines_ev s hs) ?_
 exact RRead_l0 (lines s) (by omega) (fun x hx => ⟨lines_ne s x hx, by have := lines_size s x hx; omega⟩) (lines s) [] [] rfl rfl
end Go.Proofs.YtnemooemifbbhaaDoor.Dm
namespace Go.Proofs.YtnemooemifbbhaaDoor.Dm
open Go Go.RowKit Go.Proofs.YtnemooemifbbhaaDoorW.PrintWords Go.Proofs.YtnemooemifbbhaaDoorW.PrintLast Go.Proofs.YtnemooemifbbhaaDoorW.PrintMore Go.Proofs.YtnemooemifbbhaaDoor.PDT
set_option linter.unusedVariables false
set_option linter.unusedSimpArgs false
/-! ### the digits -/
theorem dg8 (d : Nat) (h : d < 10) : (UInt8.ofNat (48 + d)).toNat = 48 + d := UInt8.toNat_ofNat_of_lt' (show 48 + d < 256 by omega)
theorem dd_small {u : Nat} (h : u < 10) : Lib.decDigits u = [UInt8.ofNat (48 + u)] := Lib.decDigits_one h
theorem dd_big {u : Nat} (h : ¬ u < 10) : Lib.decDigits u = Lib.decDigits (u / 10) ++ [UInt8.ofNat (48 + u % 10)] := by rw [Lib.decDigits, dif_neg h]
theorem dd_char (u : Nat) : ∀ c ∈ Lib.decDigits u, 48 ≤ c.toNat ∧ c.toNat ≤ 57 := by
 induction u using Nat.strongRecOn with
 | _ u ih =>
  intro c hc
  by_cases h : u < 10
  ·rw [dd_small h, List.mem_singleton] at hc
   rw [hc, dg8 u h]
   omega
  ·rw [dd_big h, List.mem_append, List.mem_singleton] at hc
   rcases hc with hc | hc
   ·exact ih (u / 10) (by omega) c hc
   ·rw [hc, dg8 _ (by omega)]
    omega
theorem numL_app : ∀ (l r : List UInt8) (n : Int), (∀ c ∈ l, 48 ≤ c.toNat ∧ c.toNat ≤ 57) → numL (l ++ r) n = numL r (numL l n)
 | [], r, n, _ => rfl
 | c :: l, r, n, h => by
  have := h c (List.mem_cons_self ..)
  rw [List.cons_append, numL, numL, if_neg (by omega), if_neg (by omega)]
  exact numL_app l r _ (fun d hd => h d (List.mem_cons_of_mem _ hd))
theorem numL_dd (u : Nat) : numL (Lib.decDigits u) 0 = (u : Int) := by
 induction u using Nat.strongRecOn with
 | _ u ih =>
  by_cases h : u < 10
  ·rw [dd_small h, numL, dg8 u h, if_neg (by omega), numL]
   omega
  ·rw [dd_big h, numL_app _ _ _ (dd_char _), ih (u / 10) (by omega), numL, dg8 _ (by omega), if_neg (by omega), numL]
   omega
theorem dd_ne (u : Nat) : Lib.decDigits u ≠ [] := by
 by_cases h : u < 10
 ·rw [dd_small h]
  exact List.cons_ne_nil _ _
 ·rw [dd_big h]
  simp
theorem dd_head (u : Nat) (h0 : u ≠ 0) : ((Lib.decDigits u).headD 0).toNat ≠ 48 := by
 induction u using Nat.strongRecOn with
 | _ u ih =>
  by_cases h : u < 10
  ·rw [dd_small h]
   show (UInt8.ofNat (48 + u)).toNat ≠ 48
   rw [dg8 u h]
   omega
  ·rw [dd_big h]
   have := ih (u / 10) (by omega) (by omega)
   cases hl : Lib.decDigits (u / 10) with
   | nil => exact absurd hl (dd_ne _)
   | cons a l =>
    rw [hl] at this
    exact this
theorem itoa_nat {n : Int} (h0 : 0 ≤ n) : Lib.itoa n = Lib.decDigits n.toNat := by
 unfold Lib.itoa
 rw [if_neg (by omega)]
theorem numF_itoa {n : Int} (h0 : 0 ≤ n) (h1 : n ≤ 900) : numF (ofL (Lib.itoa n)) = n := by
 have hl := itoa_len h0 h1
 have hn : numL (Lib.itoa n) 0 = n := by rw [itoa_nat h0, numL_dd]; omega
 unfold numF
 rw [ofL_size, if_neg ?_]
 ·exact hn
 ·rintro (h | h | ⟨h, h2⟩)
  ·rw [itoa_nat h0] at h
   exact dd_ne _ (List.length_eq_zero_iff.mp h)
  ·omega
  ·have h3 : ((Lib.decDigits n.toNat).headD 0).toNat = 48 := by rw [← itoa_nat h0]; exact h2
   rw [itoa_nat h0] at h
   by_cases e : n.toNat = 0
   ·rw [e, dd_small (by decide)] at h
    exact absurd h (by simp)
   ·exact dd_head _ e h3
theorem Digits_l0 : ∀ (d u : Nat) (acc : List UInt8) (i : Nat), u < 10 ^ (d + 1) → i + d < 20 → acc.length + d ≤ 10 → d ≤ 2 → Ev (fun k => orielref04_Digits.l0 k (u : Int) (ofL acc) (i : Int)) (ofL (Lib.decDigits u ++ acc)) := by
 intro d
 induction d with
 | zero =>
  intro u acc i hu hi ha _
  have hu' : u < 10 := by simpa using hu
  refine Ev.step (f := fun _ => some (ofL (Lib.decDigits u ++ acc))) (fun k => ?_) (Ev.now _)
  have et : wrap64 (48 + (u : Int)) = ((48 + u : Nat) : Int) := by rw [wid (by omega) (by omega)]; omega
  have e0 : wrap64 (0 : Int) = 0 := wid (by decide) (by decide)
  rw [orielref04_Digits.l0, if_pos (by omega), Option.bind_some, show Int.tmod (u : Int) 10 = ((u % 10 : Nat) : Int) from rfl, show Int.tdiv (u : Int) 10 = ((u / 10 : Nat) : Int) from rfl, Nat.mod_eq_of_lt hu', Nat.div_eq_of_lt hu', et, nums1 _ (by omega), ofL_ofL, if_pos (by rw [ofL_size, ofL_size, List.length_singleton]; clear et e0; omega), if_pos (show wrap64 ((0 : Nat) : Int) = 0 from wid (by decide) (by decide)), dd_small hu']
 | succ d ih =>
  intro u acc i hu hi ha hd
  have hu3 : u < 1000 := Nat.lt_of_lt_of_le hu (Nat.pow_le_pow_right (by decide) (show d + 1 + 1 ≤ 3 by omega))
  have et : wrap64 (48 + ((u % 10 : Nat) : Int)) = ((48 + u % 10 : Nat) : Int) := by rw [wid (by omega) (by omega)]; omega
  have eq : wrap64 (((u / 10 : Nat)) : Int) = ((u / 10 : Nat) : Int) := wid (by omega) (by omega)
  have ei : wrap64 ((i : Int) + 1) = ((i + 1 : Nat) : Int) := wsucc i (by omega)
  by_cases h : u < 10
  ·refine Ev.step (f := fun _ => some (ofL (Lib.decDigits u ++ acc))) (fun k => ?_) (Ev.now _)
   rw [orielref04_Digits.l0, if_pos (by clear et eq ei; omega), Option.bind_some, show Int.tmod (u : Int) 10 = ((u % 10 : Nat) : Int) from rfl, show Int.tdiv (u : Int) 10 = ((u / 10 : Nat) : Int) from rfl, et, eq, nums1 _ (by clear et eq ei; omega), ofL_ofL, if_pos (by rw [ofL_size, ofL_size, List.length_singleton]; clear et eq ei; omega), if_pos (by clear et eq ei; omega), dd_small h, Nat.mod_eq_of_lt h]
  ·have hn := ih (u / 10) ([UInt8.ofNat (48 + u % 10)] ++ acc) (i + 1) (by rw [Nat.pow_succ] at hu; clear et eq ei; omega) (by clear et eq ei; omega) (by
    rw [List.length_append, List.length_singleton]
    clear et eq ei
    omega) (by omega)
   rw [dd_big h, List.append_assoc]
   refine Ev.step (fun k => ?_) hn
   rw [orielref04_Digits.l0, if_pos (by clear et eq ei; omega), Option.bind_some, show Int.tmod (u : Int) 10 = ((u % 10 : Nat) : Int) from rfl, show Int.tdiv (u : Int) 10 = ((u / 10 : Nat) : Int) from rfl, et, eq, ei, nums1 _ (by clear et eq ei; omega), ofL_ofL, if_pos (by rw [ofL_size, ofL_size, List.length_singleton]; clear et eq ei; omega), if_neg (by clear et eq ei; omega)]
theorem Dec_ev {n : Int} (h0 : 0 ≤ n) (h1 : n ≤ 900) : Ev (fun k => orielref25_Dec.f k n) (ofL (Lib.itoa n)) := by
 unfold orielref25_Dec.f
 refine Ev.ite_pos h0 (Ev.bind (f := fun k t240 => some t240) ?_ (Ev.now _))
 have := Digits_l0 2 n.toNat [] 0 (by omega) (by decide) (by decide) (by decide)
 rw [List.append_nil, ← itoa_nat h0, Int.toNat_of_nonneg h0] at this
 exact this
/-! ### what is told -/
def goodT (x : S56) : Prop := (0 ≤ x.f0 ∧ x.f0 ≤ 900) ∧ (0 ≤ x.f1 ∧ x.f1 ≤ 900) ∧ x.f2.size ≤ 100000
theorem RTell_l0 (l : List S56) (hl : l.length ≤ 1000) (hg : ∀ x ∈ l, goodT x) : ∀ (r pre : List S56) (acc : List UInt8), l = pre ++ r → acc.length ≤ 500000 * pre.length → Ev (fun k => orielref27_Tell.l0 k l (ofL acc) (pre.length : Int)) (ofL (acc ++ r.flatMap tellL)) := by
 intro r
 induction r with
 | nil =>
  intro pre acc he ha
  have hp : l.length = pre.length := by rw [he, List.append_nil]
  refine Ev.step (f := fun _ => some (ofL acc)) (fun k => ?_) (by rw [List.flatMap_nil, List.append_nil]; exact Ev.now _)
  rw [orielref27_Tell.l0, if_neg (by omega)]
 | cons x r ih =>
  intro pre acc he ha
  have hp : l.length = pre.length + r.length + 1 := by rw [he, List.length_append, List.length_cons]; omega
  have hx := hg x (by rw [he]; simp)
  have e1 : rd_T56 l (pre.length : Int) = x := by rw [he]; exact rd_mid pre x r
  have hacc : (acc ++ tellL x).length ≤ 500000 * (pre ++ [x]).length := by
   have htl := tellL_len hx
   generalize tellL x = T at htl ⊢
   simp only [List.length_append, List.length_singleton]
   omega
  have i1 := itoa_len hx.1.1 hx.1.2
  have i2 := itoa_len hx.2.1.1 hx.2.1.2
  have hq := qt_len x.f2.data.toList
  rw [data_length] at hq
  have hql : (qtL x.f2.data.toList).length ≤ 400002 := by
   unfold qtL
   have := hx.2.2
   simp only [List.length_cons, List.length_append, List.length_nil]
   omega
  have ei : wrap64 ((pre.length : Int) + 1) = ((pre.length + 1 : Nat) : Int) := wsucc _ (by omega)
  have hn := ih (pre ++ [x]) (acc ++ tellL x) (by rw [he, List.append_assoc]; rfl) hacc
  rw [show (pre ++ [x]).length = pre.length + 1 by rw [List.length_append, List.length_singleton]] at hn
  have D1 := Dec_ev hx.1.1 hx.1.2
  have D2 := Dec_ev hx.2.1.1 hx.2.1.2
  have D3 := RQuote_ev x.f2 (by have := hx.2.2; omega)
  have et : acc ++ Lib.itoa x.f0 ++ [32] ++ Lib.itoa x.f1 ++ [32] ++ qtL (bs x.f2) ++ [10] = acc ++ tellL x := by
   show _ = acc ++ (Lib.itoa x.f0 ++ [32] ++ Lib.itoa x.f1 ++ [32] ++ qtL x.f2.data.toList ++ [10])
   simp only [List.append_assoc]
   rfl
  have hql' : (qtL (bs x.f2)).length ≤ 400002 := hql
  rw [← et] at hn
  rw [List.flatMap_cons, ← List.append_assoc, ← et]
  clear hq hql et ih he hacc
  generalize Lib.itoa x.f0 = A at i1 D1 hn ⊢
  generalize Lib.itoa x.f1 = B at i2 D2 hn ⊢
  generalize qtL (bs x.f2) = Q at hql' D3 hn ⊢
  refine Ev.step (fun k => orielref27_Tell.l0.eq_2 l (ofL acc) (pre.length : Int) k) ?_
  simp only [e1, ei, Option.bind_some, show strOfNums [(10 : Int)] = ofL [10] from rfl, show (⟨#[32]⟩ : ByteArray) = ofL [32] from rfl]
  refine Ev.ite_pos (by clear ei; omega) (Ev.ite_pos (Int.natCast_nonneg _) ?_)
  refine Ev.bind (f := fun k t245 => _) D1 ?_
  simp only [ofL_ofL]
  refine Ev.ite_pos (by simp only [ofL_size]; clear ei; omega) (Ev.ite_pos (by simp only [ofL_size, List.length_append]; clear ei; omega) ?_)
  refine Ev.bind (f := fun k t247 => _) D2 ?_
  simp only [ofL_ofL]
  refine Ev.ite_pos (by simp only [ofL_size, List.length_append, List.length_singleton]; clear ei; omega) (Ev.ite_pos (by simp only [ofL_size, List.length_append, List.length_singleton]; clear ei; omega) ?_)
  refine Ev.bind (f := fun k t249 => _) D3 ?_
  simp only [ofL_ofL]
  refine Ev.ite_pos (by simp only [ofL_size, List.length_append, List.length_singleton]; clear ei; omega) (Ev.ite_pos (by simp only [ofL_size, List.length_append, List.length_singleton]; clear ei; omega) ?_)
  exact hn
theorem RTell_ev (l : List S56) (hl : l.length ≤ 1000) (hg : ∀ x ∈ l, goodT x) : Ev (fun k => orielref27_Tell.f k l) (tellF l) := RTell_l0 l hl hg l [] [] rfl (by decide)
theorem Tell_ev (s : ByteArray) (l : List S56) (hl : l.length ≤ 1000) (h0 : checkSpec (s.size : Int) l = 0) (hg : ∀ x ∈ l, goodT x) : Ev (fun k => diff_Tell.f k s l) (tellF l, 0) := by
 unfold diff_Tell.f
 refine Ev.bind (f := fun k e => _) (Check_ev (s.size : Int) l (by omega)) ?_
 rw [h0]
 refine Ev.ite_pos rfl (Ev.ite_pos ⟨hl, ?_⟩ (Ev.now _))
 exact List.all_eq_true.mpr fun x hx => decide_eq_true (hg x hx)
theorem Tell_no (s : ByteArray) (l : List S56) (hl : l.length ≤ 1000) (h0 : checkSpec (s.size : Int) l ≠ 0) : Ev (fun k => diff_Tell.f k s l) (⟨#[]⟩, checkSpec (s.size : Int) l) := by
 unfold diff_Tell.f
 exact Ev.bind (f := fun k e => _) (Check_ev (s.size : Int) l (by omega)) (Ev.ite_neg h0 (Ev.now _))
/-! ### what was told is read -/
theorem gl_line : ∀ (w cur rest : List UInt8), (∀ c ∈ w, c ≠ 10) → gl cur (w ++ 10 :: rest) = (cur ++ w ++ [10]) :: gl [] rest
 | [], cur, rest, _ => by
  rw [List.nil_append, gl, if_pos rfl, List.append_nil]
 | c :: w, cur, rest, h => by
  rw [List.cons_append, gl, if_neg (h c (List.mem_cons_self ..)), if_neg (by simp), gl_line w (cur ++ [c]) rest (fun d hd => h d (List.mem_cons_of_mem _ hd))]
  simp
def wL (x : S56) : List UInt8 := Lib.itoa x.f0 ++ [32] ++ Lib.itoa x.f1 ++ [32] ++ qtL x.f2.data.toList
theorem hexd_ne : ∀ n : Fin 16, hexd n.val ≠ 10 := by decide +kernel
theorem qtB_ne (c d : UInt8) (h : d ∈ qtB c) : d ≠ 10 := by
 have hc := c.toNat_lt
 unfold qtB at h
 by_cases h1 : c.toNat = 34 ∨ c.toNat = 92
 ·rw [if_pos h1] at h
  simp only [List.mem_cons, List.not_mem_nil, or_false] at h
  rcases h with rfl | rfl
  ·decide
  ·rintro rfl
   exact absurd h1 (by decide)
 ·rw [if_neg h1] at h
  by_cases h2 : c.toNat = 10
  ·rw [if_pos h2] at h
   simp only [List.mem_cons, List.not_mem_nil, or_false] at h
   rcases h with rfl | rfl <;> decide
  ·rw [if_neg h2] at h
   by_cases h3 : c.toNat < 32 ∨ c.toNat > 126
   ·rw [if_pos h3] at h
    simp only [List.mem_cons, List.not_mem_nil, or_false] at h
    rcases h with rfl | rfl | rfl | rfl
    ·decide
    ·decide
    ·exact hexd_ne ⟨c.toNat / 16, by omega⟩
    ·exact hexd_ne ⟨c.toNat % 16, by omega⟩
   ·rw [if_neg h3] at h
    rw [List.mem_singleton] at h
    rw [h]
    rintro rfl
    exact h2 rfl
theorem itoa_ne {n : Int} (h0 : 0 ≤ n) (c : UInt8) (h : c ∈ Lib.itoa n) : c ≠ 10 ∧ c ≠ 32 := by
 rw [itoa_nat h0] at h
 have := dd_char _ c h
 constructor <;> rintro rfl <;> exact absurd this.1 (by decide)
theorem wL_ne {x : S56} (hx : goodT x) : ∀ c ∈ wL x, c ≠ 10 := by
 intro c hc
 unfold wL qtL at hc
 simp only [List.mem_append, List.mem_cons, List.not_mem_nil, or_false, List.mem_flatMap] at hc
 rcases hc with (((h | h) | h) | h) | (h | ⟨d, _, h⟩ | h)
 ·exact (itoa_ne hx.1.1 c h).1
 ·rw [h]; decide
 ·exact (itoa_ne hx.2.1.1 c h).1
 ·rw [h]; decide
 ·rw [h]; decide
 ·exact qtB_ne d c h
 ·rw [h]; decide
theorem tell_w (x : S56) : tellL x = wL x ++ [10] := rfl
theorem lns_tell : ∀ (l : List S56), (∀ x ∈ l, goodT x) → gl [] (l.flatMap tellL) = l.map tellL
 | [], _ => rfl
 | x :: l, h => by
  rw [List.flatMap_cons, tell_w, List.append_assoc, List.singleton_append, gl_line (wL x) [] _ (wL_ne (h x (List.mem_cons_self ..))), lns_tell l (fun y hy => h y (List.mem_cons_of_mem _ hy))]
  rfl
theorem idx_app : ∀ (w r : List UInt8), (∀ c ∈ w, c ≠ 32) → Lib.indexByte (w ++ 32 :: r) 32 = (w.length : Int)
 | [], r, _ => by
  rw [List.nil_append, Lib.indexByte, if_pos (by decide)]
  rfl
 | c :: w, r, h => by
  have hi := idx_app w r (fun d hd => h d (List.mem_cons_of_mem _ hd))
  rw [List.cons_append, Lib.indexByte, if_neg (by simpa using h c (List.mem_cons_self ..)), if_neg (by rw [hi]; simp), hi, List.length_cons]
  omega
theorem lineR_tell {x : S56} (hx : goodT x) : lineR (ofL (wL x)) = some x := by
 have hw : wL x = Lib.itoa x.f0 ++ 32 :: (Lib.itoa x.f1 ++ 32 :: qtL x.f2.data.toList) := by
  unfold wL
  rw [List.append_assoc, List.append_assoc, List.append_assoc]
  rfl
 have h1 := idx_app (Lib.itoa x.f0) (Lib.itoa x.f1 ++ 32 :: qtL x.f2.data.toList) (fun c hc => (itoa_ne hx.1.1 c hc).2)
 have h2 := idx_app (Lib.itoa x.f1) (qtL x.f2.data.toList) (fun c hc => (itoa_ne hx.2.1.1 c hc).2)
 have ext : ∀ (a r : List UInt8), (ofL (a ++ 32 :: r)).extract 0 a.length = ofL a ∧ (ofL (a ++ 32 :: r)).extract (a.length + 1) (ofL (a ++ 32 :: r)).size = ofL r := by
  intro a r
  constructor
  ·rw [extract_ofL, List.drop_zero, Nat.sub_zero, List.take_left]
  ·rw [extract_ofL, ofL_size]
   congr 1
   rw [← List.drop_drop, List.drop_left]
   show r.take _ = r
   rw [List.take_of_length_le]
   rw [List.length_append, List.length_cons]
   omega
 unfold lineR
 rw [bs_ofL, hw, h1, Int.toNat_natCast, if_neg (by omega), (ext _ _).2, (ext _ _).1, bs_ofL, h2, Int.toNat_natCast, if_neg (by omega), (ext _ _).2, (ext _ _).1, unqR_q, numF_itoa hx.1.1 hx.1.2, numF_itoa hx.2.1.1 hx.2.1.2, if_pos ⟨rfl, hx.1.1, hx.2.1.1⟩]
 rw [show x.f2.data.toList = bs x.f2 from rfl, ofL_bs]
theorem readR_tell : ∀ (l : List S56), (∀ x ∈ l, goodT x) → readR ((l.map tellL).map ofL) = some l
 | [], _ => rfl
 | x :: l, h => by
  have hx := h x (List.mem_cons_self ..)
  have hz : (ofL (tellL x)).size = (wL x).length + 1 := by rw [ofL_size, tell_w, List.length_append, List.length_singleton]
  have hb : bt (ofL (tellL x)) (((ofL (tellL x)).size : Int) - 1) = 10 := by
   rw [show ((ofL (tellL x)).size : Int) - 1 = ((wL x).length : Int) by omega, btL (tellL x) (wL x).length (by rw [tell_w, List.length_append, List.length_singleton]; omega)]
   simp [tell_w]
  have he : (ofL (tellL x)).extract 0 ((ofL (tellL x)).size - 1) = ofL (wL x) := by
   rw [hz, Nat.add_sub_cancel, extract_ofL, List.drop_zero, Nat.sub_zero, tell_w, List.take_left]
  rw [List.map_cons, List.map_cons, readR, if_pos hb, he, lineR_tell hx]
  show (match readR ((l.map tellL).map ofL) with
    | none => none
    | some l => some (x :: l)) = _
  rw [readR_tell l (fun y hy => h y (List.mem_cons_of_mem _ hy))]
theorem lines_tell (l : List S56) (h : ∀ x ∈ l, goodT x) : lines (tellF l) = (l.map tellL).map ofL := by
 unfold lines lns
 rw [show bs (tellF l) = l.flatMap tellL from rfl, lns_tell l h]
theorem Read_tell (l : List S56) (hs : (tellF l).size ≤ 900000) (h : ∀ x ∈ l, goodT x) : Ev (fun k => diff_Read.f k (tellF l)) (l, true) := by
 have := Read_ev (tellF l) hs
 rw [lines_tell l h, readR_tell l h] at this
 exact this
end Go.Proofs.YtnemooemifbbhaaDoor.Dm
