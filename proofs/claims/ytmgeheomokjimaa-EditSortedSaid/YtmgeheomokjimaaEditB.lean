/- What right edits make of a text, as lists of bytes: Apply and Back as plain functions, and that the edits back make the text that was. Plain theorems; no condition but those of each theorem. -/
import Derived.Test.YtmgeheomokjimaaEditA
import Derived.Test.YtmgeheomokjimaaPSox7
import Derived.Test.YtmgeheomokjimaaPSox8
namespace Go.Proofs.Ytmgeheomokjimaa.EditB
open Go.RowKit Go.Proofs.YtmgeheomokjimaaW.PrintWords Go.Proofs.YtmgeheomokjimaaW.PrintLast Go.Proofs.YtmgeheomokjimaaW.PrintMore Go.Proofs.Ytmgeheomokjimaa.PSo Go.Proofs.Ytmgeheomokjimaa.Frame Go.Proofs.Ytmgeheomokjimaa.EditA
set_option linter.unusedVariables false
set_option linter.unusedSimpArgs false

/-- The bytes of a string. -/
def bs (s : ByteArray) : List UInt8 := s.data.toList
theorem bs_len (s : ByteArray) : (bs s).length = s.size := by unfold bs; rw [Array.length_toList]; rfl
theorem bs_inj {s t : ByteArray} (h : bs s = bs t) : s = t := by
  obtain ⟨⟨s⟩⟩ := s
  obtain ⟨⟨t⟩⟩ := t
  simp only [bs] at h
  subst h
  rfl
theorem bs_mk (l : List UInt8) : bs ⟨l.toArray⟩ = l := by simp [bs]
theorem toList_loop (s : ByteArray) (d : Nat) : ∀ (i : Nat) (r : List UInt8), s.size - i = d → ByteArray.toList.loop s i r = r.reverse ++ s.data.toList.drop i := by
  induction d with
  | zero =>
    intro i r h
    rw [ByteArray.toList.loop, if_neg (by omega), List.drop_of_length_le (by rw [Array.length_toList]; show s.size ≤ i; omega)]
    simp
  | succ d ih =>
    intro i r h
    have hi : i < s.data.toList.length := by rw [Array.length_toList]; show i < s.size; omega
    rw [ByteArray.toList.loop, if_pos (by omega), ih (i + 1) _ (by omega), List.drop_eq_getElem_cons hi]
    have : s.get! i = s.data.toList[i] := by
      show s.data[i]! = _
      rw [getElem!_pos s.data i (by rw [← Array.length_toList]; exact hi)]
      simp
    rw [this]
    simp
theorem toList_eq (s : ByteArray) : s.toList = bs s := by
  unfold ByteArray.toList
  rw [toList_loop s s.size 0 [] (by omega)]
  simp [bs]
/-- The bytes from one place up to another one. -/
def seg (S : List UInt8) (a b : Int) : List UInt8 := (S.drop a.toNat).take (b.toNat - a.toNat)
theorem bs_extract (s : ByteArray) (a b : Int) (h : b.toNat ≤ s.size) : bs (s.extract a.toNat b.toNat) = seg (bs s) a b := by
  unfold bs seg
  rw [ByteArray.data_extract, Array.toList_extract]
theorem seg_len (S : List UInt8) (a b : Int) (h : b.toNat ≤ S.length) : (seg S a b).length = b.toNat - a.toNat := by
  unfold seg
  rw [List.length_take, List.length_drop]
  omega
theorem seg_drop (S : List UInt8) (a b : Int) (h0 : 0 ≤ a) (h : a ≤ b) : seg S a b ++ S.drop b.toNat = S.drop a.toNat := by
  unfold seg
  have : S.drop b.toNat = (S.drop a.toNat).drop (b.toNat - a.toNat) := by rw [List.drop_drop]; congr 1; omega
  rw [this, List.take_append_drop]

/-- Edits that go on from a place, within n bytes. -/
def Chain (n : Int) : Int → List S47 → Prop
  | a, [] => 0 ≤ a ∧ a ≤ n
  | a, x :: r => 0 ≤ a ∧ a ≤ x.f0 ∧ x.f0 ≤ x.f1 ∧ Chain n x.f1 r
theorem Chain.le {n a : Int} {l : List S47} (h : Chain n a l) : 0 ≤ a ∧ a ≤ n := by
  induction l generalizing a with
  | nil => exact h
  | cons x r ih =>
    obtain ⟨h0, h1, h2, h3⟩ := h
    have := ih h3
    omega
theorem chain_of {n : Int} {l : List S47} (h : allOk n l = true) (ha : apart l = true) (a : Int) (h0 : 0 ≤ a) (hn : a ≤ n) (hx : ∀ x r, l = x :: r → a ≤ x.f0) : Chain n a l := by
  induction l generalizing a with
  | nil => exact ⟨h0, hn⟩
  | cons x r ih =>
    simp only [allOk, Bool.and_eq_true, decide_eq_true_eq] at h
    obtain ⟨⟨h1, h2, h3⟩, h4⟩ := h
    refine ⟨h0, hx x r rfl, h2, ih h4 ?_ x.f1 (by omega) h3 ?_⟩
    · cases r with
      | nil => rfl
      | cons y r =>
        simp only [apart, Bool.and_eq_true] at ha
        exact ha.2
    · intro y r' e
      subst e
      simp only [apart, Bool.and_eq_true, decide_eq_true_eq] at ha
      omega
theorem chain_zero {n : Int} {l : List S47} (h : checkSpec n l = 0) : Chain n 0 l := by
  obtain ⟨h1, h2, h3⟩ := check_zero h
  refine chain_of h1 h3 0 (Int.le_refl _) h2 (fun x r e => ?_)
  subst e
  simp only [allOk, Bool.and_eq_true, decide_eq_true_eq] at h1
  exact h1.1.1
/-- What edits make of what stands from a place on. -/
def app (S : List UInt8) : List S47 → Int → List UInt8
  | [], a => S.drop a.toNat
  | x :: r, a => seg S a x.f0 ++ bs x.f2 ++ app S r x.f1
theorem applyGo_chain (s : ByteArray) (l : List S47) : ∀ (a : Int) (acc : List UInt8), Chain s.size a l → (acc.length : Int) + (s.size - a) + sumSize l + s.size ≤ 140737488355328 →
    ∃ a' acc', applyGo s l a acc = some (a', acc') ∧ acc' ++ (bs s).drop a'.toNat = acc ++ app (bs s) l a ∧ 0 ≤ a' ∧ a' ≤ s.size ∧ (acc'.length : Int) + s.size ≤ 140737488355328 := by
  induction l with
  | nil =>
    intro a acc hc hb
    have := hc.le
    exact ⟨a, acc, rfl, rfl, this.1, this.2, by simp only [sumSize] at hb; omega⟩
  | cons x r ih =>
    intro a acc hc hb
    obtain ⟨h0, h1, h2, h3⟩ := hc
    have h4 := h3.le
    simp only [sumSize] at hb
    have h5 := sumSize_nonneg r
    have hlen : ((acc ++ (s.extract a.toNat x.f0.toNat).data.toList ++ x.f2.data.toList).length : Int) = acc.length + (x.f0 - a) + x.f2.size := by
      have e1 := bs_extract s a x.f0 (by omega)
      have e2 := seg_len (bs s) a x.f0 (by rw [bs_len]; omega)
      have e3 := bs_len x.f2
      unfold bs at e1 e2 e3
      rw [List.length_append, List.length_append, e1, e2, e3]
      omega
    obtain ⟨a', acc', k1, k2, k3⟩ := ih x.f1 (acc ++ (s.extract a.toNat x.f0.toNat).data.toList ++ x.f2.data.toList) h3 (by rw [hlen]; omega)
    refine ⟨a', acc', ?_, ?_, k3⟩
    · unfold applyGo
      rw [if_pos ⟨h0, h1, by omega, by omega⟩]
      exact k1
    · rw [k2]
      have e1 : (s.extract a.toNat x.f0.toNat).data.toList = seg (bs s) a x.f0 := bs_extract s a x.f0 (by omega)
      rw [e1]
      show acc ++ seg (bs s) a x.f0 ++ bs x.f2 ++ app (bs s) r x.f1 = acc ++ (seg (bs s) a x.f0 ++ bs x.f2 ++ app (bs s) r x.f1)
      simp only [List.append_assoc]
theorem applyAll_chain (s : ByteArray) (l : List S47) (h : Chain s.size 0 l) (hb : 2 * s.size + sumSize l ≤ 140737488355328) : applyAll s l = some (⟨(app (bs s) l 0).toArray⟩, 0) := by
  obtain ⟨a', acc', k1, k2, k3, k4, k5⟩ := applyGo_chain s l 0 [] h (by simp; omega)
  unfold applyAll
  rw [k1, Option.bind_some]
  dsimp only
  rw [if_pos ⟨k3, k4, by omega⟩]
  have e := bs_extract s a' (s.size : Int) (by simp)
  have e2 : seg (bs s) a' (s.size : Int) = (bs s).drop a'.toNat := by
    unfold seg
    rw [List.take_of_length_le (by rw [List.length_drop, bs_len]; omega)]
  rw [e2] at e
  rw [show ((s.size : Int)).toNat = s.size by simp] at e
  unfold bs at e
  rw [e]
  unfold bs at k2
  rw [k2]
  rfl
theorem Apply_ev (s : ByteArray) (l : List S47) (hl : l.length ≤ 9223372036854775807) (hb : 2 * s.size + sumSize l ≤ 140737488355328) :
    Ev (fun k => edit_Apply.f k s l) (if checkSpec s.size l = 0 then (⟨(app (bs s) l 0).toArray⟩, 0) else (⟨#[]⟩, checkSpec s.size l)) := by
  unfold edit_Apply.f
  refine Ev.bind (Check_ev (s.size : Int) l hl) ?_
  by_cases c : checkSpec s.size l = 0
  · refine Ev.ite_pos c ?_
    rw [if_pos c, applyAll_chain s l (chain_zero c) hb]
    exact Ev.now _
  · refine Ev.ite_neg c ?_
    rw [if_neg c]
    exact Ev.now _
theorem app_len (S : List UInt8) (l : List S47) : ∀ a : Int, Chain S.length a l → ((app S l a).length : Int) + (S.length : Int) * 0 ≤ (S.length - a) + sumSize l := by
  induction l with
  | nil =>
    intro a hc
    have := hc.le
    simp only [app, sumSize, List.length_drop]
    omega
  | cons x r ih =>
    intro a hc
    obtain ⟨h0, h1, h2, h3⟩ := hc
    have h4 := h3.le
    have := ih x.f1 h3
    simp only [app, sumSize, List.length_append, bs_len]
    rw [seg_len S a x.f0 (by omega)]
    omega

/-- The edits that put a text back. -/
def back (s : ByteArray) : List S47 → Int → List S47
  | [], _ => []
  | x :: r, m => (⟨x.f0 + m, x.f0 + m + x.f2.size, s.extract x.f0.toNat x.f1.toNat⟩ : S47) :: back s r (m + (x.f2.size - (x.f1 - x.f0)))
theorem back_len (s : ByteArray) (l : List S47) (m : Int) : (back s l m).length = l.length := by
  induction l generalizing m with
  | nil => rfl
  | cons x r ih => simp [back, ih]
theorem Back_l0 (s : ByteArray) (hs : (s.size : Int) ≤ 1000000000) (l : List S47) (hl : l.length ≤ 100) (hz : sumSize l ≤ 1000000000) : ∀ (r pre : List S47) (out : List S47) (m a : Int), l = pre ++ r → Chain s.size a r →
    -2000000000 ≤ m → m + sumSize r ≤ 1000000000 → -(s.size : Int) ≤ m - (s.size - a) → out.length = pre.length →
    Ev (fun k => edit_Back.l0 k s out m l (l.length : Int) (pre.length : Int)) (out ++ back s r m, 0) := by
  intro r
  induction r with
  | nil =>
    intro pre out m a he hc _ _ _ _
    refine Ev.step (f := fun _ => some (out, 0)) (fun k => ?_) (Ev.val (by simp [back]))
    simp only [edit_Back.l0]
    rw [if_neg (by rw [he]; simp)]
  | cons x r ih =>
    intro pre out m a he hc hm1 hm2 hm3 hol
    obtain ⟨h0, h1, h2, h3⟩ := hc
    have h4 := h3.le
    simp only [sumSize] at hm2
    have h5 := sumSize_nonneg r
    have hlen : l.length = pre.length + 1 + r.length := by rw [he]; simp only [List.length_append, List.length_cons]; omega
    have hi := ih (pre ++ [x]) (out ++ [(⟨x.f0 + m, x.f0 + m + x.f2.size, s.extract x.f0.toNat x.f1.toNat⟩ : S47)]) (m + (x.f2.size - (x.f1 - x.f0))) x.f1 (by rw [he]; simp) h3 (by omega) (by omega) (by omega) (by simp [hol])
    have e2 : rd_T47 l (pre.length : Int) = x := by rw [he]; exact rd_mid pre x r
    rw [show out ++ back s (x :: r) m = out ++ [(⟨x.f0 + m, x.f0 + m + x.f2.size, s.extract x.f0.toNat x.f1.toNat⟩ : S47)] ++ back s r (m + (x.f2.size - (x.f1 - x.f0))) by simp [back]]
    refine Ev.step (fun k => ?_) hi
    simp only [edit_Back.l0]
    rw [if_pos (by omega), if_pos (by omega), if_pos (by omega), e2, if_pos (by omega), if_pos (by omega), if_pos (by omega), if_pos (by omega)]
    rw [wrap_id (x := x.f0 + m) (by omega) (by omega), wrap_id (x := x.f0 + m + x.f2.size) (by omega) (by omega), wrap_id (x := x.f1 - x.f0) (by omega) (by omega), wrap_id (x := (x.f2.size : Int) - (x.f1 - x.f0)) (by omega) (by omega), wrap_id (x := m + ((x.f2.size : Int) - (x.f1 - x.f0))) (by omega) (by omega), wrap_id (x := (pre.length : Int) + 1) (by omega) (by omega)]
    simp
theorem Back_ev (s : ByteArray) (hs : (s.size : Int) ≤ 1000000000) (l : List S47) (hl : l.length ≤ 100) (hz : sumSize l ≤ 1000000000) :
    Ev (fun k => edit_Back.f k s l) (if checkSpec s.size l = 0 then (back s l 0, 0) else ([], checkSpec s.size l)) := by
  unfold edit_Back.f
  refine Ev.bind (Check_ev (s.size : Int) l (by omega)) ?_
  by_cases c : checkSpec s.size l = 0
  · refine Ev.ite_pos c ?_
    rw [if_pos c]
    have := Back_l0 s hs l hl hz l [] [] 0 0 rfl (chain_zero c) (by omega) (by omega) (by omega) rfl
    simpa using this
  · refine Ev.ite_neg c ?_
    rw [if_neg c]
    exact Ev.now _
theorem app_back (s : ByteArray) (l : List S47) : ∀ (a m : Int) (pre T : List UInt8), Chain s.size a l → T = pre ++ app (bs s) l a → (pre.length : Int) = a + m →
    app T (back s l m) (a + m) = (bs s).drop a.toNat := by
  induction l with
  | nil =>
    intro a m pre T hc hT hp
    simp only [app, back] at *
    rw [hT, ← hp, show ((pre.length : Int)).toNat = pre.length by simp, List.drop_left]
  | cons x r ih =>
    intro a m pre T hc hT hp
    obtain ⟨h0, h1, h2, h3⟩ := hc
    have h4 := h3.le
    have hsl : (seg (bs s) a x.f0).length = x.f0.toNat - a.toNat := seg_len _ _ _ (by rw [bs_len]; omega)
    have hi := ih x.f1 (m + (x.f2.size - (x.f1 - x.f0))) (pre ++ seg (bs s) a x.f0 ++ bs x.f2) T h3 (by rw [hT]; simp [app, List.append_assoc]) (by
      rw [List.length_append, List.length_append, hsl, bs_len]
      omega)
    show seg T (a + m) (x.f0 + m) ++ bs (s.extract x.f0.toNat x.f1.toNat) ++ app T (back s r (m + (x.f2.size - (x.f1 - x.f0)))) (x.f0 + m + x.f2.size) = _
    rw [show x.f0 + m + (x.f2.size : Int) = x.f1 + (m + (x.f2.size - (x.f1 - x.f0))) by omega, hi, bs_extract s x.f0 x.f1 (by omega)]
    have e1 : seg T (a + m) (x.f0 + m) = seg (bs s) a x.f0 := by
      unfold seg at *
      rw [hT, ← hp, show ((pre.length : Int)).toNat = pre.length by simp, List.drop_left]
      simp only [app]
      rw [List.append_assoc, show (x.f0 + m).toNat - pre.length = (List.take (x.f0.toNat - a.toNat) (List.drop a.toNat (bs s))).length by rw [hsl]; omega]
      exact List.take_left
    rw [e1, List.append_assoc, seg_drop (bs s) x.f0 x.f1 (by omega) h2, seg_drop (bs s) a x.f0 h0 h1]
theorem back_ok (s : ByteArray) (l : List S47) : ∀ (a m : Int) (pre T : List UInt8), Chain s.size a l → T = pre ++ app (bs s) l a → (pre.length : Int) = a + m → allOk T.length (back s l m) = true := by
  induction l with
  | nil => intro a m pre T _ _ _; rfl
  | cons x r ih =>
    intro a m pre T hc hT hp
    obtain ⟨h0, h1, h2, h3⟩ := hc
    have h4 := h3.le
    have hsl : (seg (bs s) a x.f0).length = x.f0.toNat - a.toNat := seg_len _ _ _ (by rw [bs_len]; omega)
    have hi := ih x.f1 (m + (x.f2.size - (x.f1 - x.f0))) (pre ++ seg (bs s) a x.f0 ++ bs x.f2) T h3 (by rw [hT]; simp [app, List.append_assoc]) (by
      rw [List.length_append, List.length_append, hsl, bs_len]
      omega)
    simp only [back, allOk, hi, Bool.and_true, decide_eq_true_eq]
    have hTl : T.length = pre.length + (x.f0.toNat - a.toNat) + x.f2.size + (app (bs s) r x.f1).length := by
      rw [hT]
      simp only [app, List.length_append, hsl, bs_len]
      omega
    refine ⟨?_, ?_, ?_⟩ <;> dsimp only <;> omega
theorem back_apart (s : ByteArray) (l : List S47) : ∀ m : Int, apart l = true → apart (back s l m) = true := by
  induction l with
  | nil => intro m _; rfl
  | cons x r ih =>
    intro m h
    cases r with
    | nil => rfl
    | cons y r =>
      simp only [apart, Bool.and_eq_true, decide_eq_true_eq] at h
      have hi := ih (m + (x.f2.size - (x.f1 - x.f0))) h.2
      simp only [back, apart, Bool.and_eq_true, decide_eq_true_eq] at hi ⊢
      exact ⟨by omega, hi⟩
theorem back_size (s : ByteArray) (l : List S47) : ∀ a m : Int, Chain s.size a l → sumSize (back s l m) ≤ s.size - a := by
  induction l with
  | nil =>
    intro a m hc
    have := hc.le
    simp only [back, sumSize]
    omega
  | cons x r ih =>
    intro a m hc
    obtain ⟨h0, h1, h2, h3⟩ := hc
    have h4 := h3.le
    have := ih x.f1 (m + (x.f2.size - (x.f1 - x.f0))) h3
    simp only [back, sumSize, ByteArray.size_extract]
    omega
end Go.Proofs.Ytmgeheomokjimaa.EditB
