/- The document's answer to edits, byte by byte, is what the program makes; lists of edits that are the same. Plain theorems; no condition but those of each theorem. -/
import Derived.Test.YtmgeheomokjimaaEditB
import Derived.Test.YtmgeheomokjimaaPSox12
import Derived.Test.YtmgeheomokjimaaPSox13
import Derived.Test.YtmgeheomokjimaaPSox9
namespace Go.Proofs.Ytmgeheomokjimaa.EditG
open Go Go.RowKit Go.Proofs.YtmgeheomokjimaaW.PrintWords Go.Proofs.YtmgeheomokjimaaW.PrintLast Go.Proofs.YtmgeheomokjimaaW.PrintMore Go.Proofs.Ytmgeheomokjimaa.PSo Go.Proofs.Ytmgeheomokjimaa.EditA Go.Proofs.Ytmgeheomokjimaa.EditB
set_option linter.unusedVariables false
set_option linter.unusedSimpArgs false
/-- Does no edit take a byte? -/
def unt : List S47 → Int → Bool
  | [], _ => true
  | x :: r, i => !(decide (x.f0 ≤ i ∧ i < x.f1)) && unt r i
theorem taken_l0 (i : Int) (l : List S47) (hl : l.length ≤ 9223372036854775807) : ∀ (r pre : List S47), l = pre ++ r → ∃ v : Int, Ev (fun k => orielref02_taken.l0 k i l (pre.length : Int)) v ∧ (v < 0 ↔ unt r i = true) := by
  intro r
  induction r with
  | nil =>
    intro pre he
    refine ⟨-1, Ev.step (f := fun _ => some (-1)) (fun k => ?_) (Ev.now _), by simp [unt]⟩
    simp only [orielref02_taken.l0]
    rw [if_neg (by rw [he]; simp)]
  | cons x r ih =>
    intro pre he
    have hlen : l.length = pre.length + 1 + r.length := by rw [he]; simp only [List.length_append, List.length_cons]; omega
    have e2 : rd_T47 l (pre.length : Int) = x := by rw [he]; exact rd_mid pre x r
    by_cases c : x.f0 ≤ i ∧ i < x.f1
    · refine ⟨(pre.length : Int), Ev.step (f := fun _ => some (pre.length : Int)) (fun k => ?_) (Ev.now _), ?_⟩
      · simp only [orielref02_taken.l0]
        rw [if_pos (by omega), if_pos (by omega), e2, if_pos c.1, if_pos c.2]
      · simp only [unt, c, and_self, decide_true, Bool.not_true, Bool.false_and]
        constructor
        · intro h; omega
        · intro h; cases h
    · obtain ⟨v, hv, hv2⟩ := ih (pre ++ [x]) (by rw [he]; simp)
      refine ⟨v, ?_, ?_⟩
      · refine Ev.step (fun k => ?_) hv
        simp only [orielref02_taken.l0]
        rw [if_pos (by omega), if_pos (by omega), e2, wrap_id (x := (pre.length : Int) + 1) (by omega) (by omega), show (((pre ++ [x]).length : Nat) : Int) = (pre.length : Int) + 1 by simp]
        by_cases d : x.f0 ≤ i
        · rw [if_pos d, if_neg (by omega)]
        · rw [if_neg d]
      · rw [hv2]
        simp only [unt, c, decide_false, Bool.not_false, Bool.true_and]
theorem taken_ev (i : Int) (l : List S47) (hl : l.length ≤ 9223372036854775807) : ∃ v : Int, Ev (fun k => orielref02_taken.f k i l) v ∧ (v < 0 ↔ unt l i = true) := taken_l0 i l hl l [] rfl
theorem unt_late (i : Int) (l : List S47) (h : ∀ x ∈ l, i < x.f0) : unt l i = true := by
  induction l with
  | nil => rfl
  | cons x r ih =>
    have := h x List.mem_cons_self
    simp only [unt]
    rw [ih (fun y hy => h y (List.mem_cons_of_mem _ hy)), decide_eq_false (by omega)]
    rfl
theorem Same_l0 (l : List S47) (hl : l.length ≤ 1000000) : ∀ (r pre : List S47), l = pre ++ r → Ev (fun k => orielref02_Same.l0 k l l (pre.length : Int)) true := by
  intro r
  induction r with
  | nil =>
    intro pre he
    rw [List.append_nil] at he
    subst he
    refine Ev.step (f := fun _ => some true) (fun k => ?_) (Ev.now _)
    simp only [orielref02_Same.l0]
    rw [if_neg (by omega)]
  | cons x r ih =>
    intro pre he
    have hlen : l.length = pre.length + 1 + r.length := by rw [he]; simp only [List.length_append, List.length_cons]; omega
    have hi := ih (pre ++ [x]) (by rw [he]; simp)
    rw [show (((pre ++ [x]).length : Nat) : Int) = (pre.length : Int) + 1 by simp] at hi
    refine Ev.step (fun k => ?_) hi
    simp only [orielref02_Same.l0]
    rw [if_pos (by omega), if_pos (by omega), if_pos (by omega), if_neg (by simp), wrap_id (x := (pre.length : Int) + 1) (by omega) (by omega)]
theorem Same_ev (l : List S47) (hl : l.length ≤ 1000000) : Ev (fun k => orielref02_Same.f k l l) true := by
  unfold orielref02_Same.f
  exact Ev.ite_pos rfl (Same_l0 l hl l [] rfl)
/-! ### byte by byte -/
def insAt : List S47 → Int → List UInt8
  | [], _ => []
  | x :: r, i => (if x.f0 = i then bs x.f2 else []) ++ insAt r i
def stepA (S : List UInt8) (l : List S47) (i : Nat) : List UInt8 := insAt l i ++ (if i < S.length ∧ unt l i = true then (S.drop i).take 1 else [])
def refGo (S : List UInt8) (l : List S47) : Nat → Nat → List UInt8
  | _, 0 => []
  | i, d + 1 => stepA S l i ++ refGo S l (i + 1) d
theorem refGo_add (S : List UInt8) (l : List S47) (d e : Nat) : ∀ i, refGo S l i (d + e) = refGo S l i d ++ refGo S l (i + d) e := by
  induction d with
  | zero => intro i; simp [refGo]
  | succ d ih =>
    intro i
    rw [show d + 1 + e = (d + e) + 1 by omega]
    simp only [refGo, ih (i + 1), List.append_assoc]
    rw [show i + 1 + d = i + (d + 1) by omega]
theorem refGo_congr (S : List UInt8) (l r : List S47) (d : Nat) : ∀ i, (∀ j, i ≤ j → j < i + d → stepA S l j = stepA S r j) → refGo S l i d = refGo S r i d := by
  induction d with
  | zero => intro i _; rfl
  | succ d ih =>
    intro i h
    simp only [refGo]
    rw [h i (Nat.le_refl _) (by omega), ih (i + 1) (fun j h1 h2 => h j (by omega) (by omega))]
theorem refGo_keep (S : List UInt8) (l : List S47) (d : Nat) : ∀ i, i + d ≤ S.length → (∀ j : Nat, i ≤ j → j < i + d → insAt l j = [] ∧ unt l j = true) → refGo S l i d = (S.drop i).take d := by
  induction d with
  | zero => intro i _ _; simp [refGo]
  | succ d ih =>
    intro i hi h
    have h0 := h i (Nat.le_refl _) (by omega)
    simp only [refGo]
    rw [ih (i + 1) (by omega) (fun j h1 h2 => h j (by omega) (by omega))]
    unfold stepA
    rw [h0.1, if_pos ⟨by omega, h0.2⟩, List.nil_append]
    rw [show d + 1 = 1 + d by omega, List.take_add, List.drop_drop]
theorem refGo_none (S : List UInt8) (l : List S47) (d : Nat) : ∀ i, (∀ j : Nat, i ≤ j → j < i + d → stepA S l j = []) → refGo S l i d = [] := by
  induction d with
  | zero => intro i _; rfl
  | succ d ih =>
    intro i h
    simp only [refGo]
    rw [h i (Nat.le_refl _) (by omega), ih (i + 1) (fun j h1 h2 => h j (by omega) (by omega))]
    rfl
theorem insAt_late (i : Int) (l : List S47) (h : ∀ x ∈ l, i < x.f0) : insAt l i = [] := by
  induction l with
  | nil => rfl
  | cons x r ih =>
    have := h x List.mem_cons_self
    simp only [insAt]
    rw [if_neg (by omega), ih (fun y hy => h y (List.mem_cons_of_mem _ hy))]
    rfl
theorem insAt_len (i : Int) (l : List S47) : ((insAt l i).length : Int) ≤ sumSize l := by
  induction l with
  | nil => simp [insAt, sumSize]
  | cons x r ih =>
    simp only [insAt, sumSize, List.length_append]
    have := sumSize_nonneg r
    split
    · rw [bs_len]; omega
    · simp only [List.length_nil]; omega
/-- Each edit begins behind the end of the one ahead of it. -/
def behind : Int → List S47 → Prop
  | _, [] => True
  | a, x :: r => a < x.f0 ∧ behind x.f1 r
theorem behind_of {l : List S47} (h : apart l = true) : ∀ x r, l = x :: r → behind x.f1 r := by
  induction l with
  | nil => intro x r e; cases e
  | cons y l ih =>
    intro x r e
    injection e with e1 e2
    subst e1 e2
    cases l with
    | nil => trivial
    | cons z l =>
      simp only [apart, Bool.and_eq_true, decide_eq_true_eq] at h
      exact ⟨by first | exact h.1 | omega, ih (by first | exact h.2 | simpa [apart] using h.2) z l rfl⟩
theorem behind_all {n : Int} {a : Int} {l : List S47} (hb : behind a l) (hc : Chain n a l) : ∀ x ∈ l, a < x.f0 := by
  induction l generalizing a with
  | nil => intro x hx; cases hx
  | cons y l ih =>
    intro x hx
    rcases List.mem_cons.mp hx with rfl | hx
    · exact hb.1
    · have := ih hb.2 hc.2.2.2 x hx
      have h1 := hc.2.2.1
      have h2 := hb.1
      omega
theorem refGo_app (S : List UInt8) (l : List S47) : ∀ a : Nat, Chain S.length a l → (∀ x r, l = x :: r → behind x.f1 r) → refGo S l a (S.length + 1 - a) = app S l a := by
  induction l with
  | nil =>
    intro a hc _
    obtain ⟨h0, h1⟩ := hc
    rw [show S.length + 1 - a = (S.length - a) + 1 by omega, refGo_add, refGo_keep S [] (S.length - a) a (by omega) (fun j _ _ => ⟨rfl, rfl⟩)]
    simp only [refGo, stepA, insAt, app]
    rw [if_neg (by omega), List.take_of_length_le (by rw [List.length_drop]; omega)]
    simp
  | cons x r ih =>
    intro a hc hb
    have hb' := hb x r rfl
    obtain ⟨h0, h1, h2, h3⟩ := hc
    have hle := h3.le
    obtain ⟨p, hp⟩ := Int.eq_ofNat_of_zero_le (show 0 ≤ x.f0 by omega)
    obtain ⟨e, he⟩ := Int.eq_ofNat_of_zero_le (show 0 ≤ x.f1 by omega)
    have far := behind_all hb' h3
    have hr : ∀ y r', r = y :: r' → behind y.f1 r' := fun y r' ey => by subst ey; exact hb'.2
    have ihr := ih e (by rw [← he]; exact h3) hr
    simp only [app]
    rw [hp, he]
    rw [hp] at h1 h2
    rw [he] at h2 far
    -- up to the edit
    have k1 : refGo S (x :: r) a (p - a) = (S.drop a).take (p - a) := refGo_keep S (x :: r) (p - a) a (by omega) (fun j hj1 hj2 => by
      constructor
      · exact insAt_late _ _ (fun y hy => by
          rcases List.mem_cons.mp hy with rfl | hy
          · omega
          · have := far y hy; omega)
      · exact unt_late _ _ (fun y hy => by
          rcases List.mem_cons.mp hy with rfl | hy
          · omega
          · have := far y hy; omega))
    have hseg : seg S a p = (S.drop a).take (p - a) := by unfold seg; simp
    -- the edit's own place
    have step_at : stepA S (x :: r) p = bs x.f2 ++ (if p < S.length ∧ (!(decide ((p : Int) < e)) && unt r p) = true then (S.drop p).take 1 else []) := by
      unfold stepA
      simp only [insAt, unt, hp, he]
      rw [if_pos trivial, insAt_late (p : Int) r (fun y hy => by have := far y hy; omega), List.append_nil, show decide ((p : Int) ≤ (p : Int) ∧ (p : Int) < (e : Int)) = decide ((p : Int) < (e : Int)) by simp]
    have later : ∀ j : Nat, p < j → e ≤ j → stepA S (x :: r) j = stepA S r j := fun j hj1 hj2 => by
      unfold stepA
      simp only [insAt, unt, hp, he]
      rw [if_neg (by omega), List.nil_append, decide_eq_false (by omega)]
      simp
    by_cases c : e = p
    · -- nothing is taken
      subst c
      have k2 : refGo S (x :: r) e (S.length + 1 - e) = bs x.f2 ++ refGo S r e (S.length + 1 - e) := by
        rw [show S.length + 1 - e = (S.length - e) + 1 by omega]
        simp only [refGo]
        rw [step_at, refGo_congr S (x :: r) r (S.length - e) (e + 1) (fun j hj1 hj2 => later j (by omega) (by omega))]
        have : stepA S r e = (if e < S.length ∧ (!(decide ((e : Int) < e)) && unt r e) = true then (S.drop e).take 1 else []) := by
          unfold stepA
          rw [insAt_late (e : Int) r far, List.nil_append]
          simp
        rw [this, List.append_assoc]
      rw [show S.length + 1 - a = (e - a) + (S.length + 1 - e) by omega, refGo_add, k1, show a + (e - a) = e by omega, k2, ihr, hseg, List.append_assoc]
    · have k2 : refGo S (x :: r) p (e - p) = bs x.f2 := by
        rw [show e - p = (e - p - 1) + 1 by omega]
        simp only [refGo]
        rw [step_at, decide_eq_true (show (p : Int) < e by omega)]
        rw [refGo_none S (x :: r) (e - p - 1) (p + 1) (fun j hj1 hj2 => by
          unfold stepA
          simp only [insAt, unt, hp, he]
          rw [if_neg (by omega), insAt_late (j : Int) r (fun y hy => by have := far y hy; omega), decide_eq_true (show (p : Int) ≤ (j : Int) ∧ (j : Int) < e by omega)]
          simp)]
        simp
      have k3 : refGo S (x :: r) e (S.length + 1 - e) = refGo S r e (S.length + 1 - e) := refGo_congr S (x :: r) r _ e (fun j hj1 hj2 => later j (by omega) hj1)
      rw [show S.length + 1 - a = (p - a) + ((e - p) + (S.length + 1 - e)) by omega, refGo_add, k1, show a + (p - a) = p by omega, refGo_add, k2, show p + (e - p) = e by omega, k3, ihr, hseg, List.append_assoc]
theorem bs_append (a b : ByteArray) : bs (a ++ b) = bs a ++ bs b := by
  unfold bs
  rw [ByteArray.data_append, Array.toList_append]
theorem mk_append (A : List UInt8) (x : ByteArray) : (⟨A.toArray⟩ : ByteArray) ++ x = ⟨(A ++ bs x).toArray⟩ := by
  apply bs_inj
  rw [bs_append, bs_mk]
  exact (bs_mk (A ++ bs x)).symm
theorem mk_size (A : List UInt8) : (⟨A.toArray⟩ : ByteArray).size = A.length := by
  rw [← bs_len, bs_mk]
theorem RA_l1 (s : ByteArray) (l : List S47) (hl : l.length ≤ 1000) (i : Nat) (q : ByteArray × Int) : ∀ (r pre : List S47) (A : List UInt8), l = pre ++ r → (A.length : Int) + sumSize r ≤ 1000000000 →
    Ev (fun k => orielref02_Apply.l1 k s l ⟨(A ++ insAt r i).toArray⟩ (i : Int) (l.length : Int)) q → Ev (fun k => orielref02_Apply.l1 k s l ⟨A.toArray⟩ (i : Int) (pre.length : Int)) q := by
  intro r
  induction r with
  | nil =>
    intro pre A he hb hq
    rw [List.append_nil] at he
    subst he
    simp only [insAt, List.append_nil] at hq
    exact hq
  | cons x r ih =>
    intro pre A he hb hq
    have hlen : l.length = pre.length + 1 + r.length := by rw [he]; simp only [List.length_append, List.length_cons]; omega
    have e2 : rd_T47 l (pre.length : Int) = x := by rw [he]; exact rd_mid pre x r
    have hnn := sumSize_nonneg r
    simp only [sumSize] at hb
    simp only [insAt] at hq
    by_cases c : x.f0 = (i : Int)
    · rw [if_pos c, ← List.append_assoc] at hq
      have hi := ih (pre ++ [x]) (A ++ bs x.f2) (by rw [he]; simp) (by rw [List.length_append, bs_len]; omega) hq
      rw [show (((pre ++ [x]).length : Nat) : Int) = (pre.length : Int) + 1 by simp] at hi
      refine Ev.step (fun k => ?_) hi
      simp only [orielref02_Apply.l1]
      rw [if_pos (by omega), if_pos (by omega), e2, if_pos c, mk_size, if_pos (by omega), mk_append, wrap_id (x := (pre.length : Int) + 1) (by omega) (by omega)]
    · rw [if_neg c, List.nil_append] at hq
      have hi := ih (pre ++ [x]) A (by rw [he]; simp) (by omega) hq
      rw [show (((pre ++ [x]).length : Nat) : Int) = (pre.length : Int) + 1 by simp] at hi
      refine Ev.step (fun k => ?_) hi
      simp only [orielref02_Apply.l1]
      rw [if_pos (by omega), if_pos (by omega), e2, if_neg c, wrap_id (x := (pre.length : Int) + 1) (by omega) (by omega)]
theorem RA_l0 (s : ByteArray) (hs : s.size ≤ 2000) (l : List S47) (hl : l.length ≤ 1000) (hz : sumSize l ≤ 10000) : ∀ (d i : Nat) (A : List UInt8), i + d = s.size + 1 → A.length ≤ 20000 * i →
    Ev (fun k => orielref02_Apply.l0 k s l ⟨A.toArray⟩ (i : Int)) (⟨(A ++ refGo (bs s) l i d).toArray⟩, 0) := by
  intro d
  induction d with
  | zero =>
    intro i A hi hA
    refine Ev.step (f := fun _ => some (⟨A.toArray⟩, 0)) (fun k => ?_) (Ev.val (by simp [refGo]))
    simp only [orielref02_Apply.l0]
    rw [if_neg (by omega)]
  | succ d ih =>
    intro i A hi hA
    have hil := insAt_len (i : Int) l
    refine Ev.step (fun k => by simp only [orielref02_Apply.l0]; rw [if_pos (by omega)]) ?_
    refine RA_l1 s l hl i _ l [] A rfl (by omega) ?_
    obtain ⟨v, hv, hv2⟩ := taken_ev (i : Int) l (by omega)
    have hstep : ∀ B, stepA (bs s) l i = insAt l i ++ B → B.length ≤ 1 → Ev (fun k => orielref02_Apply.l0 k s l ⟨(A ++ insAt l i ++ B).toArray⟩ ((i : Int) + 1)) (⟨(A ++ refGo (bs s) l i (d + 1)).toArray⟩, 0) := fun B hB hB1 => by
      have := ih (i + 1) (A ++ insAt l i ++ B) (by omega) (by simp only [List.length_append]; omega)
      simp only [refGo]
      rw [hB, show A ++ (insAt l i ++ B ++ refGo (bs s) l (i + 1) d) = A ++ insAt l i ++ B ++ refGo (bs s) l (i + 1) d by simp [List.append_assoc], show (i : Int) + 1 = ((i + 1 : Nat) : Int) by omega]
      exact this
    by_cases c : i < s.size
    · refine Ev.step (fun k => by simp only [orielref02_Apply.l1]; rw [if_neg (by omega), if_pos (by omega)]) ?_
      refine Ev.bind hv ?_
      by_cases cv : v < 0
      · refine Ev.ite_pos cv ?_
        rw [wrap_id (x := (i : Int) + 1) (by omega) (by omega)]
        have hex : bs (s.extract (i : Int).toNat ((i : Int) + 1).toNat) = ((bs s).drop i).take 1 := by
          rw [bs_extract s (i : Int) ((i : Int) + 1) (by omega)]
          unfold seg
          rw [show ((i : Int)).toNat = i by omega, show ((i : Int) + 1).toNat - i = 1 by omega]
        have hsz : (s.extract (i : Int).toNat ((i : Int) + 1).toNat).size = 1 := by
          rw [← bs_len, hex, List.length_take, List.length_drop, bs_len]
          omega
        refine Ev.ite_pos (by omega) (Ev.ite_pos (by omega) (Ev.ite_pos (by omega) (Ev.ite_pos ?_ ?_)))
        · rw [hsz, mk_size]
          simp only [List.length_append]
          omega
        · rw [mk_append, hex]
          refine hstep _ ?_ (by rw [List.length_take]; omega)
          unfold stepA
          rw [if_pos ⟨by rw [bs_len]; exact c, hv2.mp cv⟩]
      · refine Ev.ite_neg cv ?_
        rw [wrap_id (x := (i : Int) + 1) (by omega) (by omega)]
        have := hstep [] (by unfold stepA; rw [if_neg (fun h => cv (hv2.mpr h.2))]) (by simp)
        rw [List.append_nil] at this
        exact this
    · refine Ev.step (fun k => by simp only [orielref02_Apply.l1]; rw [if_neg (by omega), if_neg (by omega), wrap_id (x := (i : Int) + 1) (by omega) (by omega)]) ?_
      have := hstep [] (by unfold stepA; rw [if_neg (fun h => c (by have := h.1; rw [bs_len] at this; exact this))]) (by simp)
      rw [List.append_nil] at this
      exact this
theorem RApply_ev (s : ByteArray) (hs : s.size ≤ 2000) (l : List S47) (hl : l.length ≤ 1000) (hz : sumSize l ≤ 10000) :
    Ev (fun k => orielref02_Apply.f k s l) (if checkSpec s.size l = 0 then (⟨(app (bs s) l 0).toArray⟩, 0) else (⟨#[]⟩, checkSpec s.size l)) := by
  unfold orielref02_Apply.f
  refine Ev.bind (RCheck_ev (s.size : Int) l (by omega)) ?_
  by_cases c : checkSpec s.size l = 0
  · refine Ev.ite_pos c ?_
    rw [if_pos c]
    have h := RA_l0 s hs l hl hz (s.size + 1) 0 [] (by omega) (by simp)
    have h2 := refGo_app (bs s) l 0 (by rw [bs_len]; exact chain_zero c) (behind_of (check_zero c).2.2)
    rw [bs_len, Nat.sub_zero] at h2
    rw [h2, List.nil_append] at h
    exact h
  · refine Ev.ite_neg c ?_
    rw [if_neg c]
    exact Ev.now _
end Go.Proofs.Ytmgeheomokjimaa.EditG
