/- The library's merging of two sorted stretches, and the whole stable sort, as plain functions. Plain theorems; no condition but those of each theorem. -/
import Derived.Test.YtmgeheomokjimaaSortA
import Derived.Test.YtmgeheomokjimaaPSox18
namespace Go.Proofs.Ytmgeheomokjimaa.SortB
open Go Go.RowKit Go.Proofs.YtmgeheomokjimaaW.PrintWords Go.Proofs.YtmgeheomokjimaaW.PrintLast Go.Proofs.YtmgeheomokjimaaW.PrintMore Go.Proofs.Ytmgeheomokjimaa.PSo Go.Proofs.Ytmgeheomokjimaa.SortA
set_option linter.unusedVariables false
set_option linter.unusedSimpArgs false
theorem half (x y : Nat) (h : x + y ≤ 4000000) : wrap64 ((IntKind.u64.wrap (wrap64 ((x : Int) + y))) / 2) = (((x + y) / 2 : Nat) : Int) := by
  rw [wrap_id (x := (x : Int) + y) (by omega) (by omega), uwrap_id (by omega) (by omega), wrap_id (by omega) (by omega)]
  omega
def tags (a m b : Nat) (g : Nat → T) : Prop := ∀ i j, a ≤ i → i < m → m ≤ j → j < b → (g i).2 < (g j).2
theorem rot_id (g : Nat → T) {s m e : Nat} (h1 : s ≤ m) (h2 : m ≤ e) (h : s = m ∨ e = m) : rot g s m e = g := by
  funext x
  unfold rot
  by_cases c : s ≤ x ∧ x < s + (e - m)
  · rw [if_pos c]
    congr 1; omega
  · rw [if_neg c]
    by_cases d : s + (e - m) ≤ x ∧ x < e
    · rw [if_pos d]
      congr 1; omega
    · rw [if_neg d]
theorem rot_low (g : Nat → T) {s m e x : Nat} (h : x < s) : rot g s m e x = g x := by
  unfold rot
  rw [if_neg (by omega), if_neg (by omega)]
theorem rot_one (g : Nat → T) {s m e x : Nat} (h : s ≤ x) (k : x < s + (e - m)) : rot g s m e x = g (x + (m - s)) := by
  unfold rot
  rw [if_pos ⟨h, k⟩]
theorem rot_two (g : Nat → T) {s m e x : Nat} (h : s + (e - m) ≤ x) (k : x < e) : rot g s m e x = g (x - (e - m)) := by
  unfold rot
  rw [if_neg (by omega), if_pos ⟨h, k⟩]
theorem rot_high (g : Nat → T) {s m e x : Nat} (h1 : s ≤ m) (h2 : m ≤ e) (h : e ≤ x) : rot g s m e x = g x := by
  unfold rot
  rw [if_neg (by omega), if_neg (by omega)]
theorem SS_rot (g : Nat → T) {a s m e b : Nat} (h1 : a ≤ s) (h2 : s ≤ m) (h3 : m ≤ e) (h4 : e ≤ b) (hL : SS a m g) (hR : SS m b g) (hA : ∀ i j, a ≤ i → i < s → m ≤ j → j < b → tlt (g i) (g j))
    (hB : ∀ j i, m ≤ j → j < e → s ≤ i → i < m → tlt (g j) (g i)) (hC : ∀ i j, s ≤ i → i < m → e ≤ j → j < b → tlt (g i) (g j)) : SS a b (rot g s m e) := by
  intro p q hp hpq hq
  by_cases p1 : p < s
  · rw [rot_low g p1]
    by_cases q1 : q < s
    · rw [rot_low g q1]; exact hL p q hp hpq (by omega)
    · by_cases q2 : q < s + (e - m)
      · rw [rot_one g (by omega) q2]; exact hA _ _ hp p1 (by omega) (by omega)
      · by_cases q3 : q < e
        · rw [rot_two g (by omega) q3]; exact hL _ _ hp (by omega) (by omega)
        · rw [rot_high g h2 h3 (by omega)]; exact hA _ _ hp p1 (by omega) hq
  · by_cases p2 : p < s + (e - m)
    · rw [rot_one g (by omega) p2]
      by_cases q2 : q < s + (e - m)
      · rw [rot_one g (by omega) q2]; exact hR _ _ (by omega) (by omega) (by omega)
      · by_cases q3 : q < e
        · rw [rot_two g (by omega) q3]; exact hB _ _ (by omega) (by omega) (by omega) (by omega)
        · rw [rot_high g h2 h3 (by omega)]; exact hR _ _ (by omega) (by omega) hq
    · by_cases p3 : p < e
      · rw [rot_two g (by omega) p3]
        by_cases q3 : q < e
        · rw [rot_two g (by omega) q3]; exact hL _ _ (by omega) (by omega) (by omega)
        · rw [rot_high g h2 h3 (by omega)]; exact hC _ _ (by omega) (by omega) (by omega) hq
      · rw [rot_high g h2 h3 (by omega), rot_high g h2 h3 (by omega)]; exact hR _ _ (by omega) hpq hq
/-! ### one element into those behind it -/
theorem one_shift (g : Nat → T) (a k : Nat) (h : a ≤ k) : sw (rot g a (a + 1) (k + 1)) k (k + 1) = rot g a (a + 1) (k + 2) := by
  funext x
  unfold sw
  by_cases c1 : x = k + 1
  · rw [if_pos c1, rot_two g (by omega) (by omega), rot_two g (by omega) (by omega)]
    congr 1; omega
  · rw [if_neg c1]
    by_cases c2 : x = k
    · rw [if_pos c2, rot_high g (by omega) (by omega) (by omega), rot_one g (by omega) (by omega)]
      congr 1; omega
    · rw [if_neg c2]
      by_cases c3 : x < a
      · rw [rot_low g c3, rot_low g c3]
      · by_cases c4 : x < k
        · rw [rot_one g (by omega) (by omega), rot_one g (by omega) (by omega)]
        · rw [rot_high g (by omega) (by omega) (by omega), rot_high g (by omega) (by omega) (by omega)]
theorem one_l1 {n a i : Nat} (hn : n ≤ 1000000) (hi : i ≤ n) (g : Nat → T) : ∀ (d k' : Nat), k' + 1 + d = i → a ≤ k' → Ev (fun k => api_Edit_44.l1 k (lst (rot g a (a + 1) (k' + 1)) n) (i : Int) (k' : Int)) (lst (rot g a (a + 1) i) n) := by
  intro d
  induction d with
  | zero =>
    intro k' h1 h2
    obtain rfl : i = k' + 1 := by omega
    refine Ev.step (f := fun _ => some (lst (rot g a (a + 1) (k' + 1)) n)) (fun k => ?_) (Ev.now _)
    simp only [api_Edit_44.l1]
    rw [wrap_id (by omega) (by omega), if_neg (by omega)]
  | succ d ih =>
    intro k' h1 h2
    have h := ih (k' + 1) (by omega) (by omega)
    rw [show k' + 1 + 1 = k' + 2 by omega, ← one_shift g a k' h2] at h
    refine Ev.step (fun k => ?_) h
    simp only [api_Edit_44.l1]
    rw [wrap_id (x := (i : Int) - 1) (by omega) (by omega), if_pos (by omega), wrap_id (x := (k' : Int) + 1) (by omega) (by omega), show (k' : Int) + 1 = ((k' + 1 : Nat) : Int) by omega, if_pos (by omega), if_pos (by rw [lst_len]; omega), if_pos (by omega), if_pos (by rw [lst_len]; omega), rd_lst _ (by omega), rd_lst _ (by omega)]
    show api_Edit_44.l1 k (((lst (rot g a (a + 1) (k' + 1)) n).set ((k' : Int)).toNat (rot g a (a + 1) (k' + 1) (k' + 1)).1).set (((k' + 1 : Nat) : Int)).toNat (rot g a (a + 1) (k' + 1) k').1) _ _ = _
    rw [show ((k' : Int)).toNat = k' by omega, show (((k' + 1 : Nat) : Int)).toNat = k' + 1 by omega, lst_sw _ (by omega) (by omega)]
theorem one_l0 {n a b : Nat} (hn : n ≤ 1000000) (hab : a + 1 < b) (hb : b ≤ n) {g : Nat → T} (hR : SS (a + 1) b g) (ht : tags a (a + 1) b g) : ∀ (d i j : Nat), j - i ≤ d → a + 1 ≤ i → i ≤ j → j ≤ b → (∀ x, a + 1 ≤ x → x < i → tlt (g x) (g a)) → (∀ x, j ≤ x → x < b → tlt (g a) (g x)) →
    ∃ e, a + 1 ≤ e ∧ e ≤ b ∧ (∀ x, a + 1 ≤ x → x < e → tlt (g x) (g a)) ∧ (∀ x, e ≤ x → x < b → tlt (g a) (g x)) ∧ ∀ q, Ev (fun k => api_Edit_44.l1 k (lst g n) (e : Int) (a : Int)) q → Ev (fun k => api_Edit_44.l0 k (lst g n) (a : Int) (i : Int) (j : Int)) q := by
  intro d
  induction d with
  | zero =>
    intro i j h0 h1 h2 h3 hlo hhi
    obtain rfl : i = j := by omega
    refine ⟨i, h1, h3, hlo, hhi, fun q hq => Ev.step (fun k => ?_) hq⟩
    simp only [api_Edit_44.l0]
    rw [if_neg (by omega)]
  | succ d ih =>
    intro i j h0 h1 h2 h3 hlo hhi
    by_cases c : i < j
    · obtain ⟨v, hv, hk⟩ := cmp_lt (g ((i + j) / 2)).1 (g a).1
      have step : ∀ q, (if v < 0 then Ev (fun k => api_Edit_44.l0 k (lst g n) (a : Int) (((i + j) / 2 + 1 : Nat) : Int) (j : Int)) q else Ev (fun k => api_Edit_44.l0 k (lst g n) (a : Int) (i : Int) (((i + j) / 2 : Nat) : Int)) q) → Ev (fun k => api_Edit_44.l0 k (lst g n) (a : Int) (i : Int) (j : Int)) q := by
        intro q hq
        refine Ev.step (fun k => by simp only [api_Edit_44.l0]; rw [if_pos (by omega), half i j (by omega), if_pos (by omega), if_pos (by rw [lst_len]; omega), if_pos (by omega), if_pos (by rw [lst_len]; omega), rd_lst g (by omega), rd_lst g (by omega), hv, Option.bind_some]) ?_
        by_cases d2 : v < 0
        · rw [if_pos d2] at hq
          refine ev_pos d2 ?_
          rw [wrap_id (by omega) (by omega), show (((i + j) / 2 : Nat) : Int) + 1 = (((i + j) / 2 + 1 : Nat) : Int) by omega]
          exact hq
        · rw [if_neg d2] at hq
          exact ev_neg d2 hq
      by_cases ck : klt (g ((i + j) / 2)).1 (g a).1
      · have t := klt_tlt ck
        obtain ⟨e, e1, e2, e3, e4, e5⟩ := ih ((i + j) / 2 + 1) j (by omega) (by omega) (by omega) h3 (fun x hx1 hx2 => by
          by_cases cx : x = (i + j) / 2
          · rw [cx]; exact t
          · exact tlt_trans (hR x ((i + j) / 2) hx1 (by omega) (by omega)) t) hhi
        exact ⟨e, e1, e2, e3, e4, fun q hq => step q (by rw [if_pos (hk.mpr ck)]; exact e5 q hq)⟩
      · have t := not_klt_tlt ck (ht a ((i + j) / 2) (Nat.le_refl _) (by omega) (by omega) (by omega))
        obtain ⟨e, e1, e2, e3, e4, e5⟩ := ih i ((i + j) / 2) (by omega) h1 (by omega) (by omega) hlo (fun x hx1 hx2 => by
          by_cases cx : x = (i + j) / 2
          · rw [cx]; exact t
          · exact tlt_trans t (hR ((i + j) / 2) x (by omega) (by omega) hx2))
        exact ⟨e, e1, e2, e3, e4, fun q hq => step q (by rw [if_neg (fun hh => ck (hk.mp hh))]; exact e5 q hq)⟩
    · obtain rfl : i = j := by omega
      refine ⟨i, h1, h3, hlo, hhi, fun q hq => Ev.step (fun k => ?_) hq⟩
      simp only [api_Edit_44.l0]
      rw [if_neg (by omega)]
/-! ### one element into those ahead of it -/
theorem last_shift (g : Nat → T) (m k : Nat) (h : k < m) : sw (rot g (k + 1) m (m + 1)) (k + 1) k = rot g k m (m + 1) := by
  funext x
  unfold sw
  by_cases c1 : x = k
  · rw [if_pos c1, rot_one g (by omega) (by omega), rot_one g (by omega) (by omega)]
    congr 1; omega
  · rw [if_neg c1]
    by_cases c2 : x = k + 1
    · rw [if_pos c2, rot_low g (by omega), rot_two g (by omega) (by omega)]
      congr 1; omega
    · rw [if_neg c2]
      by_cases c3 : x < k
      · rw [rot_low g (by omega), rot_low g c3]
      · by_cases c4 : x < m + 1
        · rw [rot_two g (by omega) c4, rot_two g (by omega) c4]
        · rw [rot_high g (by omega) (by omega) (by omega), rot_high g (by omega) (by omega) (by omega)]
theorem last_l3 {n m i : Nat} (hn : n ≤ 1000000) (hm : m < n) (g : Nat → T) : ∀ (d k' : Nat), i + d = k' → k' ≤ m → Ev (fun k => api_Edit_44.l3 k (lst (rot g k' m (m + 1)) n) (i : Int) (k' : Int)) (lst (rot g i m (m + 1)) n) := by
  intro d
  induction d with
  | zero =>
    intro k' h1 h2
    obtain rfl : i = k' := by omega
    refine Ev.step (f := fun _ => some (lst (rot g i m (m + 1)) n)) (fun k => ?_) (Ev.now _)
    simp only [api_Edit_44.l3]
    rw [if_neg (by omega)]
  | succ d ih =>
    intro k' h1 h2
    obtain ⟨k0, rfl⟩ : ∃ k0, k' = k0 + 1 := ⟨k' - 1, by omega⟩
    have h := ih k0 (by omega) (by omega)
    rw [← last_shift g m k0 (by omega)] at h
    refine Ev.step (fun k => ?_) h
    simp only [api_Edit_44.l3]
    rw [if_pos (by omega), wrap_id (x := ((k0 + 1 : Nat) : Int) - 1) (by omega) (by omega), show ((k0 + 1 : Nat) : Int) - 1 = (k0 : Int) by omega, if_pos (by omega), if_pos (by rw [lst_len]; omega), if_pos (by omega), if_pos (by rw [lst_len]; omega), rd_lst _ (by omega), rd_lst _ (by omega)]
    show api_Edit_44.l3 k (((lst (rot g (k0 + 1) m (m + 1)) n).set (((k0 + 1 : Nat) : Int)).toNat (rot g (k0 + 1) m (m + 1) k0).1).set ((k0 : Int)).toNat (rot g (k0 + 1) m (m + 1) (k0 + 1)).1) _ _ = _
    rw [show (((k0 + 1 : Nat) : Int)).toNat = k0 + 1 by omega, show ((k0 : Int)).toNat = k0 by omega, lst_sw _ (by omega) (by omega)]
theorem last_l2 {n a m : Nat} (hn : n ≤ 1000000) (hm : m < n) {g : Nat → T} (hL : SS a m g) (ht : tags a m (m + 1) g) : ∀ (d i j : Nat), j - i ≤ d → a ≤ i → i ≤ j → j ≤ m → (∀ x, a ≤ x → x < i → tlt (g x) (g m)) → (∀ x, j ≤ x → x < m → tlt (g m) (g x)) →
    ∃ e, a ≤ e ∧ e ≤ m ∧ (∀ x, a ≤ x → x < e → tlt (g x) (g m)) ∧ (∀ x, e ≤ x → x < m → tlt (g m) (g x)) ∧ ∀ q, Ev (fun k => api_Edit_44.l3 k (lst g n) (e : Int) (m : Int)) q → Ev (fun k => api_Edit_44.l2 k (lst g n) (m : Int) (i : Int) (j : Int)) q := by
  intro d
  induction d with
  | zero =>
    intro i j h0 h1 h2 h3 hlo hhi
    obtain rfl : i = j := by omega
    refine ⟨i, h1, h3, hlo, hhi, fun q hq => Ev.step (fun k => ?_) hq⟩
    simp only [api_Edit_44.l2]
    rw [if_neg (by omega)]
  | succ d ih =>
    intro i j h0 h1 h2 h3 hlo hhi
    by_cases c : i < j
    · obtain ⟨v, hv, hk⟩ := cmp_lt (g m).1 (g ((i + j) / 2)).1
      have step : ∀ q, (if v < 0 then Ev (fun k => api_Edit_44.l2 k (lst g n) (m : Int) (i : Int) (((i + j) / 2 : Nat) : Int)) q else Ev (fun k => api_Edit_44.l2 k (lst g n) (m : Int) (((i + j) / 2 + 1 : Nat) : Int) (j : Int)) q) → Ev (fun k => api_Edit_44.l2 k (lst g n) (m : Int) (i : Int) (j : Int)) q := by
        intro q hq
        refine Ev.step (fun k => by simp only [api_Edit_44.l2]; rw [if_pos (by omega), half i j (by omega), if_pos (by omega), if_pos (by rw [lst_len]; omega), if_pos (by omega), if_pos (by rw [lst_len]; omega), rd_lst g (by omega), rd_lst g (by omega), hv, Option.bind_some]) ?_
        by_cases d2 : v < 0
        · rw [if_pos d2] at hq
          exact ev_pos d2 hq
        · rw [if_neg d2] at hq
          refine ev_neg d2 ?_
          rw [wrap_id (by omega) (by omega), show (((i + j) / 2 : Nat) : Int) + 1 = (((i + j) / 2 + 1 : Nat) : Int) by omega]
          exact hq
      by_cases ck : klt (g m).1 (g ((i + j) / 2)).1
      · have t := klt_tlt ck
        obtain ⟨e, e1, e2, e3, e4, e5⟩ := ih i ((i + j) / 2) (by omega) h1 (by omega) (by omega) hlo (fun x hx1 hx2 => by
          by_cases cx : x = (i + j) / 2
          · rw [cx]; exact t
          · exact tlt_trans t (hL ((i + j) / 2) x (by omega) (by omega) hx2))
        exact ⟨e, e1, e2, e3, e4, fun q hq => step q (by rw [if_pos (hk.mpr ck)]; exact e5 q hq)⟩
      · have t := not_klt_tlt ck (ht ((i + j) / 2) m (by omega) (by omega) (Nat.le_refl _) (by omega))
        obtain ⟨e, e1, e2, e3, e4, e5⟩ := ih ((i + j) / 2 + 1) j (by omega) (by omega) (by omega) h3 (fun x hx1 hx2 => by
          by_cases cx : x = (i + j) / 2
          · rw [cx]; exact t
          · exact tlt_trans (hL x ((i + j) / 2) hx1 (by omega) (by omega)) t) hhi
        exact ⟨e, e1, e2, e3, e4, fun q hq => step q (by rw [if_neg (fun hh => ck (hk.mp hh))]; exact e5 q hq)⟩
    · obtain rfl : i = j := by omega
      refine ⟨i, h1, h3, hlo, hhi, fun q hq => Ev.step (fun k => ?_) hq⟩
      simp only [api_Edit_44.l2]
      rw [if_neg (by omega)]
/-! ### the search from both ends -/
theorem both_l4 {n a m b p s0 r0 : Nat} (hn : n ≤ 1000000) (hb : b ≤ n) {g : Nat → T} (hL : SS a m g) (hR : SS m b g) (ht : tags a m b g) (hr : ∀ c, s0 ≤ c → c < r0 → a ≤ c ∧ c < m ∧ c ≤ p ∧ m ≤ p - c ∧ p - c < b) (hp : p ≤ 4000000) (hr0 : r0 ≤ n) (x18 x19 : Int) :
    ∀ (d i j : Nat), j - i ≤ d → s0 ≤ i → i ≤ j → j ≤ r0 → (∀ c, s0 ≤ c → c < i → tlt (g c) (g (p - c))) → (∀ c, j ≤ c → c < r0 → tlt (g (p - c)) (g c)) →
    ∃ e, s0 ≤ e ∧ e ≤ r0 ∧ (∀ c, s0 ≤ c → c < e → tlt (g c) (g (p - c))) ∧ (∀ c, e ≤ c → c < r0 → tlt (g (p - c)) (g c)) ∧
      ∀ q, Ev (fun k => api_Edit_44.l4 k (lst g n) (a : Int) (m : Int) (b : Int) x18 x19 (e : Int) (e : Int) (p : Int)) q → Ev (fun k => api_Edit_44.l4 k (lst g n) (a : Int) (m : Int) (b : Int) x18 x19 (i : Int) (j : Int) (p : Int)) q := by
  intro d
  induction d with
  | zero =>
    intro i j h0 h1 h2 h3 hlo hhi
    obtain rfl : i = j := by omega
    exact ⟨i, h1, h3, hlo, hhi, fun q hq => hq⟩
  | succ d ih =>
    intro i j h0 h1 h2 h3 hlo hhi
    by_cases c : i < j
    · obtain ⟨r1, r2, r3, r4, r5⟩ := hr ((i + j) / 2) (by omega) (by omega)
      obtain ⟨v, hv, hk⟩ := cmp_lt (g (p - (i + j) / 2)).1 (g ((i + j) / 2)).1
      have step : ∀ q, (if v < 0 then Ev (fun k => api_Edit_44.l4 k (lst g n) (a : Int) (m : Int) (b : Int) x18 x19 (i : Int) (((i + j) / 2 : Nat) : Int) (p : Int)) q else Ev (fun k => api_Edit_44.l4 k (lst g n) (a : Int) (m : Int) (b : Int) x18 x19 (((i + j) / 2 + 1 : Nat) : Int) (j : Int) (p : Int)) q) → Ev (fun k => api_Edit_44.l4 k (lst g n) (a : Int) (m : Int) (b : Int) x18 x19 (i : Int) (j : Int) (p : Int)) q := by
        intro q hq
        refine Ev.step (fun k => by simp only [api_Edit_44.l4]; rw [if_pos (by omega), half i j (by omega), wrap_id (x := (p : Int) - (((i + j) / 2 : Nat) : Int)) (by omega) (by omega), show (p : Int) - (((i + j) / 2 : Nat) : Int) = ((p - (i + j) / 2 : Nat) : Int) by omega, if_pos (by omega), if_pos (by rw [lst_len]; omega), if_pos (by omega), if_pos (by rw [lst_len]; omega), rd_lst g (by omega), rd_lst g (by omega), hv, Option.bind_some]) ?_
        by_cases d2 : v < 0
        · rw [if_pos d2] at hq
          exact ev_pos d2 hq
        · rw [if_neg d2] at hq
          refine ev_neg d2 ?_
          rw [wrap_id (by omega) (by omega), show (((i + j) / 2 : Nat) : Int) + 1 = (((i + j) / 2 + 1 : Nat) : Int) by omega]
          exact hq
      by_cases ck : klt (g (p - (i + j) / 2)).1 (g ((i + j) / 2)).1
      · have t := klt_tlt ck
        obtain ⟨e, e1, e2, e3, e4, e5⟩ := ih i ((i + j) / 2) (by omega) h1 (by omega) (by omega) hlo (fun x hx1 hx2 => by
          by_cases cx : x = (i + j) / 2
          · rw [cx]; exact t
          · obtain ⟨s1, s2, s3, s4, s5⟩ := hr x (by omega) hx2
            exact tlt_trans (hR (p - x) (p - (i + j) / 2) s4 (by omega) r5) (tlt_trans t (hL ((i + j) / 2) x r1 (by omega) s2)))
        exact ⟨e, e1, e2, e3, e4, fun q hq => step q (by rw [if_pos (hk.mpr ck)]; exact e5 q hq)⟩
      · have t := not_klt_tlt ck (ht ((i + j) / 2) (p - (i + j) / 2) r1 r2 r4 r5)
        obtain ⟨e, e1, e2, e3, e4, e5⟩ := ih ((i + j) / 2 + 1) j (by omega) (by omega) (by omega) h3 (fun x hx1 hx2 => by
          by_cases cx : x = (i + j) / 2
          · rw [cx]; exact t
          · obtain ⟨s1, s2, s3, s4, s5⟩ := hr x hx1 (by omega)
            exact tlt_trans (hL x ((i + j) / 2) s1 (by omega) r2) (tlt_trans t (hR (p - (i + j) / 2) (p - x) r4 (by omega) s5))) hhi
        exact ⟨e, e1, e2, e3, e4, fun q hq => step q (by rw [if_neg (fun hh => ck (hk.mp hh))]; exact e5 q hq)⟩
    · obtain rfl : i = j := by omega
      exact ⟨i, h1, h3, hlo, hhi, fun q hq => hq⟩
/-! ### merging -/
def Merges (n s : Nat) : Prop := ∀ (a m b : Nat) (g : Nat → T), b - a ≤ s → a < m → m < b → b ≤ n → SS a m g → SS m b g → tags a m b g → ∃ h, Ev (fun k => api_Edit_44.f k (lst g n) (a : Int) (m : Int) (b : Int)) (lst h n) ∧ PO a b g h ∧ SS a b h
/-- Behind the search: turning the middle, then both halves. -/
theorem merge_end {n s a m b e mid : Nat} (hn : n ≤ 1000000) (ih : Merges n s) (hb : b ≤ n) (g : Nat → T) (hL : SS a m g) (hR : SS m b g) (ht : tags a m b g) (st : Nat) (h1 : a ≤ st) (h2 : st ≤ m) (h3 : m ≤ e) (h4 : e ≤ b) (hm : mid = st + (e - m)) (hs1 : mid - a ≤ s) (hs2 : b - mid ≤ s)
    (X1 : ∀ i j, a ≤ i → i < st → e ≤ j → j < b → tlt (g i) (g j)) (X2 : ∀ j i, m ≤ j → j < e → st ≤ i → i < m → tlt (g j) (g i)) (p : Int) (x19 : Int) (hx : wrap64 (x19 - (st : Int)) = (e : Int)) :
    ∃ h, Ev (fun k => api_Edit_44.l4 k (lst g n) (a : Int) (m : Int) (b : Int) (mid : Int) x19 (st : Int) (st : Int) p) (lst h n) ∧ PO a b g h ∧ SS a b h := by
  have hmid1 : st ≤ mid := by omega
  have hmid2 : mid ≤ e := by omega
  have v1 : ∀ x, a ≤ x → x < st → rot g st m e x = g x := fun x _ h => rot_low g h
  have v2 : ∀ x, st ≤ x → x < mid → rot g st m e x = g (x + (m - st)) := fun x h k => rot_one g h (by omega)
  have v3 : ∀ x, mid ≤ x → x < e → rot g st m e x = g (x - (e - m)) := fun x h k => rot_two g (by omega) k
  have v4 : ∀ x, e ≤ x → x < b → rot g st m e x = g x := fun x h _ => rot_high g h2 h3 h
  -- the first half
  have A : ∃ h, (∀ q, Ev (fun k => api_Edit_44.j9 k (lst h n) (b : Int) (mid : Int) (e : Int)) q → Ev (fun k => api_Edit_44.j7 k (lst (rot g st m e) n) (a : Int) (b : Int) (mid : Int) (st : Int) (e : Int)) q) ∧ PO a mid (rot g st m e) h ∧ SS a mid h := by
    by_cases c1 : a < st
    · by_cases c2 : st < mid
      · obtain ⟨h, e1, e2, e3⟩ := ih a st mid (rot g st m e) hs1 c1 c2 (by omega) (fun x y hx hxy hy => by rw [v1 x hx (by omega), v1 y (by omega) hy]; exact hL x y hx hxy (by omega)) (fun x y hx hxy hy => by rw [v2 x hx (by omega), v2 y (by omega) hy]; exact hR _ _ (by omega) (by omega) (by omega)) (fun x y hx1 hx2 hy1 hy2 => by rw [v1 x hx1 hx2, v2 y hy1 hy2]; exact ht _ _ hx1 (by omega) (by omega) (by omega))
        refine ⟨h, fun q hq => ?_, e2, e3⟩
        refine Ev.step (fun k => by simp only [api_Edit_44.j7]; rw [if_pos (by omega), decide_eq_true (show (st : Int) < (mid : Int) by omega)]) ?_
        refine Ev.step (fun k => by simp only [api_Edit_44.j8]; rw [if_true]) ?_
        exact Ev.bind e1 hq
      · refine ⟨rot g st m e, fun q hq => ?_, PO.refl _ _ _, fun x y hx hxy hy => by rw [v1 x hx (by omega), v1 y (by omega) (by omega)]; exact hL x y hx hxy (by omega)⟩
        refine Ev.step (fun k => by simp only [api_Edit_44.j7]; rw [if_pos (by omega), decide_eq_false (show ¬ (st : Int) < (mid : Int) by omega)]) ?_
        refine Ev.step (fun k => ?_) hq
        simp only [api_Edit_44.j8]
        rw [if_neg (by simp)]
    · refine ⟨rot g st m e, fun q hq => ?_, PO.refl _ _ _, fun x y hx hxy hy => by rw [v2 x (by omega) (by omega), v2 y (by omega) hy]; exact hR _ _ (by omega) (by omega) (by omega)⟩
      refine Ev.step (fun k => by simp only [api_Edit_44.j7]; rw [if_neg (by omega)]) ?_
      refine Ev.step (fun k => ?_) hq
      simp only [api_Edit_44.j8]
      rw [if_neg (by simp)]
  obtain ⟨h1', A1, A2, A3⟩ := A
  -- the second half
  have w3 : ∀ x, mid ≤ x → x < e → h1' x = g (x - (e - m)) := fun x h k => (A2.1 x (.inr h)).trans (v3 x h k)
  have w4 : ∀ x, e ≤ x → x < b → h1' x = g x := fun x h k => (A2.1 x (.inr (by omega))).trans (v4 x h k)
  have B : ∃ h, Ev (fun k => api_Edit_44.j9 k (lst h1' n) (b : Int) (mid : Int) (e : Int)) (lst h n) ∧ PO mid b h1' h ∧ SS mid b h := by
    by_cases c1 : mid < e
    · by_cases c2 : e < b
      · obtain ⟨h, e1, e2, e3⟩ := ih mid e b h1' hs2 c1 c2 hb (fun x y hx hxy hy => by rw [w3 x hx (by omega), w3 y (by omega) hy]; exact hL _ _ (by omega) (by omega) (by omega)) (fun x y hx hxy hy => by rw [w4 x hx (by omega), w4 y (by omega) hy]; exact hR _ _ (by omega) hxy hy) (fun x y hx1 hx2 hy1 hy2 => by rw [w3 x hx1 hx2, w4 y hy1 hy2]; exact ht _ _ (by omega) (by omega) (by omega) hy2)
        refine ⟨h, ?_, e2, e3⟩
        refine Ev.step (fun k => by simp only [api_Edit_44.j9]; rw [if_pos (by omega), if_pos (by omega)]) ?_
        exact Ev.bind (f := fun _ t => some t) e1 (Ev.now _)
      · refine ⟨h1', ?_, PO.refl _ _ _, fun x y hx hxy hy => by rw [w3 x hx (by omega), w3 y (by omega) (by omega)]; exact hL _ _ (by omega) (by omega) (by omega)⟩
        refine Ev.step (f := fun _ => some (lst h1' n)) (fun k => ?_) (Ev.now _)
        simp only [api_Edit_44.j9]
        rw [if_pos (by omega), if_neg (by omega)]
    · refine ⟨h1', ?_, PO.refl _ _ _, fun x y hx hxy hy => by rw [w4 x (by omega) (by omega), w4 y (by omega) hy]; exact hR _ _ (by omega) hxy hy⟩
      refine Ev.step (f := fun _ => some (lst h1' n)) (fun k => ?_) (Ev.now _)
      simp only [api_Edit_44.j9]
      rw [if_neg (by omega)]
  obtain ⟨h2', B1, B2, B3⟩ := B
  refine ⟨h2', ?_, ?_, ?_⟩
  · have tail := A1 _ B1
    have j6 : ∀ c : Bool, (c = true ↔ st < m ∧ m < e) → Ev (fun k => api_Edit_44.j6 k (lst g n) (a : Int) (m : Int) (b : Int) (mid : Int) (st : Int) (e : Int) c) (lst h2' n) := by
      intro c hc
      cases c with
      | true =>
        have hh := hc.mp rfl
        refine Ev.step (fun k => by simp only [api_Edit_44.j6]; rw [if_true]) ?_
        exact Ev.bind (rot_spec hn hh.1 hh.2 (by omega) g) tail
      | false =>
        have hh : ¬ (st < m ∧ m < e) := fun x => by have := hc.mpr x; cases this
        rw [rot_id g h2 h3 (by omega)] at tail
        refine Ev.step (fun k => ?_) tail
        simp only [api_Edit_44.j6]
        rw [if_neg (by simp)]
    by_cases c1 : st < m
    · refine Ev.step (fun k => by simp only [api_Edit_44.l4]; rw [if_neg (by omega), if_pos (by omega), hx]) ?_
      exact j6 _ (by rw [decide_eq_true_eq]; omega)
    · refine Ev.step (fun k => by simp only [api_Edit_44.l4]; rw [if_neg (by omega), if_neg (by omega), hx]) ?_
      exact j6 false (by simp; omega)
  · exact ((PO_rot g h2 h3).widen h1 h4).trans ((A2.widen (Nat.le_refl _) (by omega)).trans (B2.widen (by omega) (Nat.le_refl _)))
  · intro x y hx hxy hy
    by_cases c1 : y < mid
    · rw [B2.1 x (.inl (by omega)), B2.1 y (.inl c1)]
      exact A3 x y hx hxy c1
    · by_cases c2 : mid ≤ x
      · exact B3 x y c2 hxy hy
      · rw [B2.1 x (.inl (by omega))]
        obtain ⟨x', hx1, hx2, ex⟩ := A2.2.1 x hx (by omega)
        obtain ⟨y', hy1, hy2, ey⟩ := B2.2.1 y (by omega) hy
        rw [ex, ey]
        by_cases d1 : x' < st
        · rw [v1 x' hx1 d1]
          by_cases d2 : y' < e
          · rw [w3 y' hy1 d2]; exact hL _ _ hx1 (by omega) (by omega)
          · rw [w4 y' (by omega) hy2]; exact X1 _ _ hx1 d1 (by omega) hy2
        · rw [v2 x' (by omega) hx2]
          by_cases d2 : y' < e
          · rw [w3 y' hy1 d2]; exact X2 _ _ (by omega) (by omega) (by omega) (by omega)
          · rw [w4 y' (by omega) hy2]; exact hR _ _ (by omega) (by omega) hy2
theorem merges {n : Nat} (hn : n ≤ 1000000) : ∀ s, Merges n s := by
  intro s
  induction s with
  | zero => intro a m b g h1 h2 h3; omega
  | succ s ih =>
    intro a m b g hs ham hmb hb hL hR ht
    by_cases c1 : m = a + 1
    · subst c1
      obtain ⟨e, e1, e2, e3, e4, e5⟩ := one_l0 hn hmb hb hR ht (b - (a + 1)) (a + 1) b (by omega) (Nat.le_refl _) (by omega) (Nat.le_refl _) (fun x h1 h2 => by omega) (fun x h1 h2 => by omega)
      have hl := one_l1 (n := n) (a := a) (i := e) hn (by omega) g (e - (a + 1)) a (by omega) (Nat.le_refl _)
      rw [rot_id g (by omega) (Nat.le_refl _) (.inr rfl)] at hl
      refine ⟨rot g a (a + 1) e, ?_, (PO_rot g (by omega) e1).widen (Nat.le_refl _) e2, ?_⟩
      · refine Ev.step (fun k => by simp only [api_Edit_44.f]; rw [wrap_id (x := ((a + 1 : Nat) : Int) - a) (by omega) (by omega), if_pos (by omega)]) ?_
        exact e5 _ hl
      · refine SS_rot g (Nat.le_refl _) (by omega) e1 e2 hL hR (fun i j h1 h2 => by omega) (fun j i h1 h2 h3 h4 => ?_) (fun i j h1 h2 h3 h4 => ?_)
        · obtain rfl : i = a := by omega
          exact e3 j h1 h2
        · obtain rfl : i = a := by omega
          exact e4 j h3 h4
    · by_cases c2 : b = m + 1
      · subst c2
        obtain ⟨e, e1, e2, e3, e4, e5⟩ := last_l2 hn (by omega) hL ht (m - a) a m (Nat.le_refl _) (Nat.le_refl _) (by omega) (Nat.le_refl _) (fun x h1 h2 => by omega) (fun x h1 h2 => by omega)
        have hl := last_l3 (n := n) (m := m) (i := e) hn (by omega) g (m - e) m (by omega) (Nat.le_refl _)
        rw [rot_id g (Nat.le_refl _) (by omega) (.inl rfl)] at hl
        refine ⟨rot g e m (m + 1), ?_, (PO_rot g e2 (by omega)).widen e1 (Nat.le_refl _), ?_⟩
        · refine Ev.step (fun k => by simp only [api_Edit_44.f]; rw [wrap_id (x := (m : Int) - a) (by omega) (by omega), if_neg (by omega), wrap_id (x := ((m + 1 : Nat) : Int) - m) (by omega) (by omega), if_pos (by omega)]) ?_
          exact e5 _ hl
        · refine SS_rot g e1 e2 (by omega) (Nat.le_refl _) hL hR (fun i j h1 h2 h3 h4 => ?_) (fun j i h1 h2 h3 h4 => ?_) (fun i j h1 h2 h3 h4 => by omega)
          · obtain rfl : j = m := by omega
            exact e3 i h1 h2
          · obtain rfl : j = m := by omega
            exact e4 i h3 h4
      · -- the general case
        have hmid : ∃ mid, mid = (a + b) / 2 := ⟨_, rfl⟩
        obtain ⟨mid, hmid⟩ := hmid
        have fin : ∀ (s0 r0 : Nat), (s0 ≤ r0) → a ≤ s0 → r0 ≤ m → s0 + b ≥ mid + m → r0 ≤ mid → (s0 = a ∨ s0 + b = mid + m) → (r0 = m ∨ r0 = mid) →
            ∃ h, Ev (fun k => api_Edit_44.j4 k (lst g n) (a : Int) (m : Int) (b : Int) (mid : Int) ((mid + m : Nat) : Int) (s0 : Int) (r0 : Int)) (lst h n) ∧ PO a b g h ∧ SS a b h := by
          intro s0 r0 hsr h1 h2 h3 h4 h5 h6
          obtain ⟨e, e1, e2, e3, e4, e5⟩ := both_l4 (p := mid + m - 1) (s0 := s0) (r0 := r0) hn hb hL hR ht (fun c hc1 hc2 => by omega) (by omega) (by omega) (mid : Int) ((mid + m : Nat) : Int) (r0 - s0) s0 r0 (Nat.le_refl _) (Nat.le_refl _) hsr (Nat.le_refl _) (fun c hc1 hc2 => by omega) (fun c hc1 hc2 => by omega)
          obtain ⟨h, q1, q2, q3⟩ := merge_end (s := s) (mid := mid) (e := mid + m - e) hn ih hb g hL hR ht e (by omega) (by omega) (by omega) (by omega) (by omega) (by omega) (by omega)
            (fun i j hi1 hi2 hj1 hj2 => by
              rcases h5 with h5 | h5
              · by_cases ce : s0 < e
                · have t := e3 (e - 1) (by omega) (by omega)
                  rw [show mid + m - 1 - (e - 1) = mid + m - e by omega] at t
                  have t2 : tlt (g i) (g (mid + m - e)) := by
                    by_cases ci : i = e - 1
                    · rw [ci]; exact t
                    · exact tlt_trans (hL i (e - 1) hi1 (by omega) (by omega)) t
                  by_cases cj : j = mid + m - e
                  · rw [cj]; exact t2
                  · exact tlt_trans t2 (hR (mid + m - e) j (by omega) (by omega) hj2)
                · omega
              · by_cases ce : s0 < e
                · have t := e3 (e - 1) (by omega) (by omega)
                  rw [show mid + m - 1 - (e - 1) = mid + m - e by omega] at t
                  have t2 : tlt (g i) (g (mid + m - e)) := by
                    by_cases ci : i = e - 1
                    · rw [ci]; exact t
                    · exact tlt_trans (hL i (e - 1) hi1 (by omega) (by omega)) t
                  by_cases cj : j = mid + m - e
                  · rw [cj]; exact t2
                  · exact tlt_trans t2 (hR (mid + m - e) j (by omega) (by omega) hj2)
                · omega)
            (fun j i hj1 hj2 hi1 hi2 => by
              by_cases ce : e < r0
              · have t := e4 e (Nat.le_refl _) ce
                have t2 : tlt (g j) (g e) := by
                  by_cases cj : j = mid + m - 1 - e
                  · rw [cj]; exact t
                  · exact tlt_trans (hR j (mid + m - 1 - e) hj1 (by omega) (by omega)) t
                by_cases ci : i = e
                · rw [ci]; exact t2
                · exact tlt_trans t2 (hL e i (by omega) (by omega) hi2)
              · omega)
            ((mid + m - 1 : Nat) : Int) ((mid + m : Nat) : Int) (by rw [wrap_id (by omega) (by omega)]; omega)
          refine ⟨h, ?_, q2, q3⟩
          refine Ev.step (fun k => by simp only [api_Edit_44.j4]; rw [wrap_id (x := ((mid + m : Nat) : Int) - 1) (by omega) (by omega), show ((mid + m : Nat) : Int) - 1 = ((mid + m - 1 : Nat) : Int) by omega]) ?_
          exact e5 _ q1
        have hh := half a b (by omega)
        rw [← hmid] at hh
        by_cases c3 : mid < m
        · obtain ⟨h, q1, q2, q3⟩ := fin (mid + m - b) mid (by omega) (by omega) (by omega) (by omega) (by omega) (.inr (by omega)) (.inr rfl)
          refine ⟨h, ?_, q2, q3⟩
          refine Ev.step (fun k => by simp only [api_Edit_44.f]; rw [wrap_id (x := (m : Int) - a) (by omega) (by omega), if_neg (by omega), wrap_id (x := (b : Int) - m) (by omega) (by omega), if_neg (by omega), hh, if_pos (by omega), wrap_id (x := (mid : Int) + m) (by omega) (by omega), wrap_id (x := (mid : Int) + m - b) (by omega) (by omega), show (mid : Int) + m - b = ((mid + m - b : Nat) : Int) by omega, show (mid : Int) + m = ((mid + m : Nat) : Int) by omega]) ?_
          exact q1
        · obtain ⟨h, q1, q2, q3⟩ := fin a m (by omega) (Nat.le_refl _) (Nat.le_refl _) (by omega) (by omega) (.inl rfl) (.inl rfl)
          refine ⟨h, ?_, q2, q3⟩
          refine Ev.step (fun k => by simp only [api_Edit_44.f]; rw [wrap_id (x := (m : Int) - a) (by omega) (by omega), if_neg (by omega), wrap_id (x := (b : Int) - m) (by omega) (by omega), if_neg (by omega), hh, if_neg (by omega), wrap_id (x := (mid : Int) + m) (by omega) (by omega), show (mid : Int) + m = ((mid + m : Nat) : Int) by omega]) ?_
          exact q1
end Go.Proofs.Ytmgeheomokjimaa.SortB
