/- Then as a plain function: one edit that spans two lists of them. Plain theorems; no condition but those of each theorem. -/
import Derived.Test.YtmgeheomokjimaaEditB
import Derived.Test.YtmgeheomokjimaaPAllx22
namespace Go.Proofs.Ytmgeheomokjimaa.EditD
open Go.RowKit Go.Proofs.YtmgeheomokjimaaW.PrintWords Go.Proofs.YtmgeheomokjimaaW.PrintLast Go.Proofs.YtmgeheomokjimaaW.PrintMore Go.Proofs.Ytmgeheomokjimaa.PAll Go.Proofs.Ytmgeheomokjimaa.Frame Go.Proofs.Ytmgeheomokjimaa.EditA Go.Proofs.Ytmgeheomokjimaa.EditB
set_option linter.unusedVariables false
set_option linter.unusedSimpArgs false

theorem allOk_mem {n : Int} {l : List S47} (h : allOk n l = true) : ∀ x ∈ l, okE n x := by
  induction l with
  | nil => intro x hx; cases hx
  | cons y r ih =>
    simp only [allOk, Bool.and_eq_true, decide_eq_true_eq] at h
    intro x hx
    cases hx with
    | head => exact h.1
    | tail _ hx => exact ih h.2 x hx
theorem seg_split (S : List UInt8) (a c b : Int) (h0 : 0 ≤ a) (h1 : a ≤ c) (h2 : c ≤ b) : seg S a b = seg S a c ++ seg S c b := by
  unfold seg
  rw [show b.toNat - a.toNat = (c.toNat - a.toNat) + (b.toNat - c.toNat) by omega, List.take_add, List.drop_drop, show a.toNat + (c.toNat - a.toNat) = c.toNat by omega]
theorem app_tail (S : List UInt8) (e : Int) (he : e ≤ S.length) (l : List S47) : ∀ a : Int, Chain S.length a l → a ≤ e → (∀ x ∈ l, x.f1 ≤ e) → ∃ M, app S l a = M ++ S.drop e.toNat := by
  induction l with
  | nil =>
    intro a hc ha _
    exact ⟨seg S a e, (seg_drop S a e hc.1 ha).symm⟩
  | cons x r ih =>
    intro a hc ha hx
    obtain ⟨h0, h1, h2, h3⟩ := hc
    obtain ⟨M, hM⟩ := ih x.f1 h3 (hx x List.mem_cons_self) (fun y hy => hx y (List.mem_cons_of_mem _ hy))
    exact ⟨seg S a x.f0 ++ bs x.f2 ++ M, by simp only [app, hM, List.append_assoc]⟩
theorem app_frame (S : List UInt8) (c e : Int) (h1 : c ≤ e) (he : e ≤ S.length) (l : List S47) (a : Int) (hc : Chain S.length a l) (ha : a ≤ c) (hx : ∀ x ∈ l, c ≤ x.f0 ∧ x.f1 ≤ e) : ∃ M, app S l a = seg S a c ++ M ++ S.drop e.toNat := by
  have h0 := hc.le
  cases l with
  | nil =>
    refine ⟨seg S c e, ?_⟩
    simp only [app]
    rw [List.append_assoc, seg_drop S c e (by omega) h1, seg_drop S a c h0.1 ha]
  | cons x r =>
    obtain ⟨c0, c1, c2, c3⟩ := hc
    have hx0 := hx x List.mem_cons_self
    obtain ⟨M, hM⟩ := app_tail S e he r x.f1 c3 hx0.2 (fun y hy => (hx y (List.mem_cons_of_mem _ hy)).2)
    refine ⟨seg S c x.f0 ++ bs x.f2 ++ M, ?_⟩
    simp only [app, hM]
    rw [seg_split S a c x.f0 c0 ha hx0.1]
    simp only [List.append_assoc]

/-- Where a place of the new text stands in the text that was. -/
def ahd : List S47 → Int → Int → Bool → Int
  | [], m, y, _ => y - m
  | x :: r, m, y, b =>
    if y < x.f0 + m ∨ (y = x.f0 + m ∧ b = false) then y - m
    else if y < x.f0 + m + x.f2.size ∨ (y = x.f0 + m + x.f2.size ∧ b = true) then (if b = true then x.f1 else x.f0)
    else ahd r (m + (x.f2.size - (x.f1 - x.f0))) y b
theorem ahead_l0 (n : Int) (hn : n ≤ 1000000000) (y : Int) (b : Bool) (h0 : -1000000000 ≤ y) (h1 : y ≤ 1000000000) (l : List S47) (hl : l.length ≤ 100) : ∀ (r pre : List S47) (a m : Int), l = pre ++ r → Chain n a r → m + sumSize r ≤ 1000000000 → -a ≤ m →
    Ev (fun k => edit_ahead.l0 k y b m l (l.length : Int) (pre.length : Int)) (ahd r m y b) := by
  intro r
  induction r with
  | nil =>
    intro pre a m he hc hm1 hm2
    have h4 := hc.le
    simp only [sumSize] at hm1
    refine Ev.step (f := fun _ => some (y - m)) (fun k => ?_) (Ev.now _)
    simp only [edit_ahead.l0]
    rw [if_neg (by rw [he]; simp), wrap_id (by omega) (by omega)]
  | cons x r ih =>
    intro pre a m he hc hm1 hm2
    obtain ⟨c0, c1, c2, c3⟩ := hc
    have h4 := c3.le
    simp only [sumSize] at hm1
    have h5 := sumSize_nonneg r
    have hlen : l.length = pre.length + 1 + r.length := by rw [he]; simp only [List.length_append, List.length_cons]; omega
    have e2 : rd_T47 l (pre.length : Int) = x := by rw [he]; exact rd_mid pre x r
    have hi := ih (pre ++ [x]) x.f1 (m + (x.f2.size - (x.f1 - x.f0))) (by rw [he]; simp) c3 (by omega) (by omega)
    have hw : Ev (fun k => edit_ahead.j2 k y b m l (l.length : Int) (pre.length : Int) false x.f0 x.f1 x.f2) (ahd r (m + (x.f2.size - (x.f1 - x.f0))) y b) := by
      refine Ev.step (fun k => ?_) hi
      simp only [edit_ahead.j2]
      rw [if_neg (by simp), wrap_id (x := x.f1 - x.f0) (by omega) (by omega), wrap_id (x := (x.f2.size : Int) - (x.f1 - x.f0)) (by omega) (by omega), wrap_id (x := m + ((x.f2.size : Int) - (x.f1 - x.f0))) (by omega) (by omega), wrap_id (x := (pre.length : Int) + 1) (by omega) (by omega)]
      simp
    have hin : Ev (fun k => edit_ahead.j2 k y b m l (l.length : Int) (pre.length : Int) true x.f0 x.f1 x.f2) (if b = true then x.f1 else x.f0) := by
      refine Ev.step (f := fun _ => some (if b = true then x.f1 else x.f0)) (fun k => ?_) (Ev.now _)
      simp only [edit_ahead.j2]
      rw [if_true]
      split <;> rfl
    have hno : Ev (fun k => edit_ahead.j1 k y b m (x.f0 + m + x.f2.size) l (l.length : Int) (pre.length : Int) false x.f0 x.f1 x.f2)
        (if y < x.f0 + m + x.f2.size ∨ (y = x.f0 + m + x.f2.size ∧ b = true) then (if b = true then x.f1 else x.f0) else ahd r (m + (x.f2.size - (x.f1 - x.f0))) y b) := by
      refine Ev.step (fun k => by simp only [edit_ahead.j1]; rw [if_neg (by simp)]) ?_
      by_cases d : y < x.f0 + m + x.f2.size
      · rw [if_pos (Or.inl d)]
        exact Ev.ite_pos d hin
      · refine Ev.ite_neg d ?_
        by_cases d2 : y = x.f0 + m + x.f2.size
        · refine Ev.ite_pos d2 ?_
          cases b with
          | true => rw [if_pos (Or.inr ⟨d2, rfl⟩)]; exact hin
          | false => rw [if_neg (by simp; omega)]; exact hw
        · refine Ev.ite_neg d2 ?_
          rw [if_neg (by rintro (h | ⟨h, _⟩) <;> omega)]
          exact hw
    have hyes : Ev (fun k => edit_ahead.j1 k y b m (x.f0 + m + x.f2.size) l (l.length : Int) (pre.length : Int) true x.f0 x.f1 x.f2) (y - m) := by
      refine Ev.step (f := fun _ => some (y - m)) (fun k => ?_) (Ev.now _)
      simp only [edit_ahead.j1]
      rw [if_true, wrap_id (by omega) (by omega)]
    simp only [ahd]
    refine Ev.step (fun k => by
      simp only [edit_ahead.l0]
      rw [if_pos (by omega), if_pos (by omega), if_pos (by omega), e2, wrap_id (x := x.f0 + m) (by omega) (by omega), wrap_id (x := x.f0 + m + x.f2.size) (by omega) (by omega)]) ?_
    by_cases d : y < x.f0 + m
    · rw [if_pos (Or.inl d)]
      exact Ev.ite_pos d hyes
    · refine Ev.ite_neg d ?_
      by_cases d2 : y = x.f0 + m
      · refine Ev.ite_pos d2 ?_
        cases b with
        | false => rw [if_pos (Or.inr ⟨d2, rfl⟩)]; exact hyes
        | true => rw [if_neg (by simp; omega)]; exact hno
      · refine Ev.ite_neg d2 ?_
        rw [if_neg (by rintro (h | ⟨h, _⟩) <;> omega)]
        exact hno
theorem ahead_ev (n : Int) (hn : n ≤ 1000000000) (y : Int) (b : Bool) (h0 : -1000000000 ≤ y) (h1 : y ≤ 1000000000) (l : List S47) (hl : l.length ≤ 100) (hc : Chain n 0 l) (hz : sumSize l ≤ 1000000000) :
    Ev (fun k => edit_ahead.f k y l b) (ahd l 0 y b) := ahead_l0 n hn y b h0 h1 l hl l [] 0 0 rfl hc (by omega) (by omega)
/-- By how much edits lengthen a text. -/
def more : List S47 → Int
  | [] => 0
  | x :: r => x.f2.size - (x.f1 - x.f0) + more r
theorem app_more (S : List UInt8) (l : List S47) : ∀ a : Int, Chain S.length a l → ((app S l a).length : Int) = S.length - a + more l := by
  induction l with
  | nil =>
    intro a hc
    have := hc.le
    simp only [app, more, List.length_drop]
    omega
  | cons x r ih =>
    intro a hc
    obtain ⟨h0, h1, h2, h3⟩ := hc
    have h4 := h3.le
    have := ih x.f1 h3
    simp only [app, more, List.length_append, bs_len]
    rw [seg_len S a x.f0 (by omega)]
    omega
theorem ahd_range (n y : Int) (b : Bool) (l : List S47) : ∀ a m : Int, Chain n a l → a + m ≤ y → y ≤ n + m + more l → a ≤ ahd l m y b ∧ ahd l m y b ≤ n := by
  induction l with
  | nil =>
    intro a m hc h1 h2
    simp only [ahd, more] at *
    omega
  | cons x r ih =>
    intro a m hc h1 h2
    obtain ⟨c0, c1, c2, c3⟩ := hc
    have h4 := c3.le
    simp only [more] at h2
    simp only [ahd]
    by_cases d : y < x.f0 + m ∨ (y = x.f0 + m ∧ b = false)
    · rw [if_pos d]
      omega
    · rw [if_neg d]
      by_cases d2 : y < x.f0 + m + x.f2.size ∨ (y = x.f0 + m + x.f2.size ∧ b = true)
      · rw [if_pos d2]
        split <;> omega
      · rw [if_neg d2]
        have := ih x.f1 (m + (x.f2.size - (x.f1 - x.f0))) c3 (by omega) (by omega)
        omega
theorem ahd_low (n y c : Int) (l : List S47) (hc : ∀ x ∈ l, c ≤ x.f0) (h : c ≤ ahd l 0 y false) : c ≤ y := by
  cases l with
  | nil => simp only [ahd] at h; omega
  | cons x r =>
    have := hc x List.mem_cons_self
    unfold ahd at h
    by_cases d : y < x.f0 + 0 ∨ (y = x.f0 + 0 ∧ false = false)
    · rw [if_pos d] at h
      omega
    · omega
theorem to_le (n e : Int) (l : List S47) : ∀ a m : Int, Chain n a l → (∀ x ∈ l, x.f1 ≤ e) → a ≤ e → a + m ≤ e + m + more l := by
  induction l with
  | nil => intro a m hc _ h; simp only [more]; omega
  | cons x r ih =>
    intro a m hc hx h
    obtain ⟨c0, c1, c2, c3⟩ := hc
    have := ih x.f1 (m + (x.f2.size - (x.f1 - x.f0))) c3 (fun y hy => hx y (List.mem_cons_of_mem _ hy)) (hx x List.mem_cons_self)
    simp only [more]
    omega
theorem ahd_high (n e y : Int) (l : List S47) : ∀ a m : Int, Chain n a l → (∀ x ∈ l, x.f1 ≤ e) → e + m + more l < y → ahd l m y true = y - m - more l := by
  induction l with
  | nil => intro a m hc _ h; simp only [ahd, more]; omega
  | cons x r ih =>
    intro a m hc hx h
    obtain ⟨c0, c1, c2, c3⟩ := hc
    simp only [more] at h
    have ht := to_le n e r x.f1 (m + (x.f2.size - (x.f1 - x.f0))) c3 (fun y hy => hx y (List.mem_cons_of_mem _ hy)) (hx x List.mem_cons_self)
    simp only [ahd, more]
    rw [if_neg (by simp; omega), if_neg (by simp; omega), ih x.f1 (m + (x.f2.size - (x.f1 - x.f0))) c3 (fun y hy => hx y (List.mem_cons_of_mem _ hy)) (by omega)]
    omega
/-- The edit that Then gives for a stretch. -/
def one (s u : ByteArray) (l m : List S47) (a e : Int) : List S47 × Int :=
  if l.length + m.length = 0 then ([], 0) else ([(⟨a, e, u.extract a.toNat ((u.size : Int) - ((s.size : Int) - e)).toNat⟩ : S47)], 0)
theorem Then_l1 (s u : ByteArray) (hs : s.size ≤ 100000) (hu : u.size ≤ 100000) (l m : List S47) (hl : l.length ≤ 100) (hm : m.length ≤ 100) (hc : Chain s.size 0 l) (hz : sumSize l ≤ 100000) (t : Int) (ht : t = s.size + more l) (ht2 : t ≤ 1000000) :
    ∀ (r pre : List S47) (a e : Int), m = pre ++ r → 0 ≤ a → a ≤ s.size → 0 ≤ e → e ≤ s.size → (∀ y ∈ r, okE t y) →
      ∃ a' e' : Int, (0 ≤ a' ∧ a' ≤ a ∧ e ≤ e' ∧ e' ≤ s.size ∧ ∀ y ∈ r, a' ≤ ahd l 0 y.f0 false ∧ ahd l 0 y.f1 true ≤ e') ∧
        ((¬ l.length + m.length = 0 → a' ≤ (u.size : Int) - ((s.size : Int) - e')) → Ev (fun k => edit_Then.l1 k s l m u a e m (m.length : Int) (pre.length : Int)) (one s u l m a' e')) := by
  intro r
  induction r with
  | nil =>
    intro pre a e hp h0 h1 h2 h3 _
    refine ⟨a, e, ⟨h0, Int.le_refl _, Int.le_refl _, h3, fun y hy => by cases hy⟩, fun hq => ?_⟩
    refine Ev.step (f := fun _ => some (one s u l m a e)) (fun k => ?_) (Ev.now _)
    simp only [edit_Then.l1]
    rw [if_neg (by rw [hp]; simp), wrap_id (x := (l.length : Int) + m.length) (by omega) (by omega)]
    unfold one
    by_cases c : l.length + m.length = 0
    · rw [if_pos (by omega), if_pos c]
    · have := hq c
      rw [if_neg (by omega), if_neg c, wrap_id (x := (s.size : Int) - e) (by omega) (by omega), wrap_id (x := (u.size : Int) - ((s.size : Int) - e)) (by omega) (by omega), if_pos h0, if_pos this, if_pos (by omega)]
  | cons y r ih =>
    intro pre a e hp h0 h1 h2 h3 hk
    have hy := hk y List.mem_cons_self
    unfold okE at hy
    have r1 := ahd_range s.size y.f0 false l 0 0 hc (by omega) (by omega)
    have r2 := ahd_range s.size y.f1 true l 0 0 hc (by omega) (by omega)
    have a1 := ahead_ev s.size (by omega) y.f0 false (by omega) (by omega) l hl hc (by omega)
    have a2 := ahead_ev s.size (by omega) y.f1 true (by omega) (by omega) l hl hc (by omega)
    have g1 : mn a (ahd l 0 y.f0 false) ≤ a ∧ mn a (ahd l 0 y.f0 false) ≤ ahd l 0 y.f0 false ∧ 0 ≤ mn a (ahd l 0 y.f0 false) := by unfold mn; split <;> omega
    have g2 : e ≤ mx e (ahd l 0 y.f1 true) ∧ ahd l 0 y.f1 true ≤ mx e (ahd l 0 y.f1 true) ∧ mx e (ahd l 0 y.f1 true) ≤ s.size := by unfold mx; split <;> omega
    obtain ⟨a', e', ⟨b0, b1, b2, b3, b4⟩, b5⟩ := ih (pre ++ [y]) (mn a (ahd l 0 y.f0 false)) (mx e (ahd l 0 y.f1 true)) (by rw [hp]; simp) (by omega) (by omega) (by omega) (by omega) (fun z hz => hk z (List.mem_cons_of_mem _ hz))
    have hlen : m.length = pre.length + 1 + r.length := by rw [hp]; simp only [List.length_append, List.length_cons]; omega
    have e2 : rd_T47 m (pre.length : Int) = y := by rw [hp]; exact rd_mid pre y r
    refine ⟨a', e', ⟨b0, by omega, by omega, b3, ?_⟩, fun hq => ?_⟩
    · intro z hz
      cases hz with
      | head => omega
      | tail _ hz => exact b4 z hz
    · refine Ev.step (fun k => by
        simp only [edit_Then.l1]
        rw [if_pos (by omega), if_pos (by omega), if_pos (by omega), e2, wrap_id (x := (pre.length : Int) + 1) (by omega) (by omega)]) ?_
      refine Ev.bind a1 (Ev.bind a2 ?_)
      have := b5 hq
      rw [show (((pre ++ [y]).length : Nat) : Int) = (pre.length : Int) + 1 by simp] at this
      exact this
theorem Then_l0 (s u : ByteArray) (hs : s.size ≤ 100000) (hu : u.size ≤ 100000) (l m : List S47) (hl : l.length ≤ 100) (hm : m.length ≤ 100) (hc : Chain s.size 0 l) (hz : sumSize l ≤ 100000) (t : Int) (ht : t = s.size + more l) (ht2 : t ≤ 1000000) (hk : ∀ y ∈ m, okE t y) :
    ∀ (r pre : List S47) (a e : Int), l = pre ++ r → 0 ≤ a → a ≤ s.size → 0 ≤ e → e ≤ s.size → (∀ x ∈ r, okE s.size x) →
      ∃ a' e' : Int, (0 ≤ a' ∧ a' ≤ a ∧ e ≤ e' ∧ e' ≤ s.size ∧ (∀ x ∈ r, a' ≤ x.f0 ∧ x.f1 ≤ e') ∧ ∀ y ∈ m, a' ≤ ahd l 0 y.f0 false ∧ ahd l 0 y.f1 true ≤ e') ∧
        ((¬ l.length + m.length = 0 → a' ≤ (u.size : Int) - ((s.size : Int) - e')) → Ev (fun k => edit_Then.l0 k s l m u a e l (l.length : Int) (pre.length : Int)) (one s u l m a' e')) := by
  intro r
  induction r with
  | nil =>
    intro pre a e hp h0 h1 h2 h3 _
    obtain ⟨a', e', ⟨b0, b1, b2, b3, b4⟩, b5⟩ := Then_l1 s u hs hu l m hl hm hc hz t ht ht2 m [] a e rfl h0 h1 h2 h3 hk
    refine ⟨a', e', ⟨b0, b1, b2, b3, (fun x hx => by cases hx), b4⟩, fun hq => ?_⟩
    refine Ev.step (fun k => ?_) (b5 hq)
    simp only [edit_Then.l0]
    rw [if_neg (by rw [hp]; simp)]
    rfl
  | cons x r ih =>
    intro pre a e hp h0 h1 h2 h3 hkx
    have hx := hkx x List.mem_cons_self
    unfold okE at hx
    have g1 : mn a x.f0 ≤ a ∧ mn a x.f0 ≤ x.f0 ∧ 0 ≤ mn a x.f0 := by unfold mn; split <;> omega
    have g2 : e ≤ mx e x.f1 ∧ x.f1 ≤ mx e x.f1 ∧ mx e x.f1 ≤ s.size := by unfold mx; split <;> omega
    obtain ⟨a', e', ⟨b0, b1, b2, b3, b4, b6⟩, b5⟩ := ih (pre ++ [x]) (mn a x.f0) (mx e x.f1) (by rw [hp]; simp) (by omega) (by omega) (by omega) (by omega) (fun z hz => hkx z (List.mem_cons_of_mem _ hz))
    have hlen : l.length = pre.length + 1 + r.length := by rw [hp]; simp only [List.length_append, List.length_cons]; omega
    have e2 : rd_T47 l (pre.length : Int) = x := by rw [hp]; exact rd_mid pre x r
    refine ⟨a', e', ⟨b0, by omega, by omega, b3, ?_, b6⟩, fun hq => ?_⟩
    · intro z hz
      cases hz with
      | head => omega
      | tail _ hz => exact b4 z hz
    · have := b5 hq
      rw [show (((pre ++ [x]).length : Nat) : Int) = (pre.length : Int) + 1 by simp] at this
      refine Ev.step (fun k => ?_) this
      simp only [edit_Then.l0]
      rw [if_pos (by omega), if_pos (by omega), if_pos (by omega), e2, wrap_id (x := (pre.length : Int) + 1) (by omega) (by omega)]
/-- What the one edit makes of the text is what both lists make of it. -/
theorem one_frame (S : List UInt8) (l m : List S47) (a e : Int) (h0 : 0 ≤ a) (h1 : a ≤ e) (h2 : e ≤ S.length) (hl : Chain S.length 0 l) (hm : Chain (app S l 0).length 0 m)
    (hx : ∀ x ∈ l, a ≤ x.f0 ∧ x.f1 ≤ e) (hy : ∀ y ∈ m, a ≤ ahd l 0 y.f0 false ∧ ahd l 0 y.f1 true ≤ e) :
    ∃ M, app (app S l 0) m 0 = seg S 0 a ++ M ++ S.drop e.toNat := by
  obtain ⟨M, hM⟩ := app_frame S a e h1 h2 l 0 hl h0 hx
  have hal := app_more S l 0 hl
  have hl1 : (seg S 0 a).length = a.toNat := by rw [seg_len S 0 a (by omega)]; omega
  have hl2 : (S.drop e.toNat).length = S.length - e.toNat := List.length_drop
  have hlen : ((app S l 0).length : Int) = a + M.length + (S.length - e) := by rw [hM]; simp only [List.length_append, hl1, hl2]; omega
  obtain ⟨M', hM'⟩ := app_frame (app S l 0) a (a + M.length) (by omega) (by omega) m 0 hm h0 (fun y hyy => by
    have h := hy y hyy
    refine ⟨ahd_low S.length y.f0 a l (fun x hx' => (hx x hx').1) h.1, ?_⟩
    by_cases c : e + 0 + more l < y.f1
    · have := ahd_high S.length e y.f1 l 0 0 hl (fun x hx' => (hx x hx').2) c
      omega
    · omega)
  refine ⟨M', ?_⟩
  rw [hM']
  have e1 : seg (app S l 0) 0 a = seg S 0 a := by
    rw [hM]
    unfold seg
    simp only [Int.toNat_zero, List.drop_zero, Nat.sub_zero]
    rw [List.append_assoc, List.take_append_of_le_length (by rw [List.length_take]; omega), List.take_take, Nat.min_self]
  have e2 : (app S l 0).drop (a + M.length).toNat = S.drop e.toNat := by
    rw [hM, show (a + (M.length : Int)).toNat = (seg S 0 a ++ M).length by rw [List.length_append, hl1]; omega, List.drop_left]
  rw [e1, e2]
end Go.Proofs.Ytmgeheomokjimaa.EditD
