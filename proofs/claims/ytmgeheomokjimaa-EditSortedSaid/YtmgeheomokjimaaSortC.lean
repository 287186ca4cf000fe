/- The whole stable sort, and the document's sort by insertion: both are the one order of numbered edits. Plain theorems; no condition but those of each theorem. -/
import Derived.Test.YtmgeheomokjimaaSortB
import Derived.Test.YtmgeheomokjimaaPSox19
import Derived.Test.YtmgeheomokjimaaPSox20
namespace Go.Proofs.Ytmgeheomokjimaa.SortC
open Go Go.RowKit Go.Proofs.YtmgeheomokjimaaW.PrintWords Go.Proofs.YtmgeheomokjimaaW.PrintLast Go.Proofs.YtmgeheomokjimaaW.PrintMore Go.Proofs.Ytmgeheomokjimaa.PSo Go.Proofs.Ytmgeheomokjimaa.SortA Go.Proofs.Ytmgeheomokjimaa.SortB
set_option linter.unusedVariables false
set_option linter.unusedSimpArgs false
def tagsAt (n c : Nat) (g : Nat → T) : Prop := ∀ i j, i < c → c ≤ j → j < n → (g i).2 < (g j).2
def ssIn (n c d : Nat) (g : Nat → T) : Prop := ∀ i j, c ≤ i → i < j → j < d → j < n → tlt (g i) (g j)
def Blk (n B : Nat) (g : Nat → T) : Prop := ∀ q, ssIn n (q * B) (q * B + B) g ∧ tagsAt n (q * B) g
/-- What is turned within a stretch leaves the order of the numbers across a border outside of it. -/
theorem tagsAt_keep {n c a b : Nat} {g h : Nat → T} (ht : tagsAt n c g) (p : PO a b g h) (hb : b ≤ n) (ho : c ≤ a ∨ b ≤ c) : tagsAt n c h := by
  intro i j hi hj hjn
  have ei : ∃ i', i' < c ∧ h i = g i' := by
    by_cases x : a ≤ i ∧ i < b
    · obtain ⟨i', h1, h2, e⟩ := p.2.1 i x.1 x.2
      exact ⟨i', by omega, e⟩
    · exact ⟨i, hi, p.1 i (by omega)⟩
  have ej : ∃ j', c ≤ j' ∧ j' < n ∧ h j = g j' := by
    by_cases x : a ≤ j ∧ j < b
    · obtain ⟨j', h1, h2, e⟩ := p.2.1 j x.1 x.2
      exact ⟨j', by omega, by omega, e⟩
    · exact ⟨j, hj, hjn, p.1 j (by omega)⟩
  obtain ⟨i', h1, e1⟩ := ei
  obtain ⟨j', h2, h3, e2⟩ := ej
  rw [e1, e2]
  exact ht i' j' h1 h2 h3
theorem first_l0 {n : Nat} (hn : n ≤ 1000000) {g : Nat → T} : ∀ (d q : Nat) (h : Nat → T), n - 20 * q ≤ d → 20 * q ≤ n → PO 0 n g h → (∀ x, 20 * q ≤ x → h x = g x) → asc (20 * q) n h → (∀ q', q' < q → ssIn n (20 * q') (20 * q' + 20) h) → (∀ q', q' ≤ q → tagsAt n (20 * q') h) →
    ∃ h', PO 0 n g h' ∧ Blk n 20 h' ∧ ∀ r, Ev (fun k => api_Edit_41.l1 k (lst h' n) (n : Int) 20) r → Ev (fun k => api_Edit_41.l0 k (lst h n) (n : Int) 20 ((20 * q : Nat) : Int) ((20 * q + 20 : Nat) : Int)) r := by
  intro d
  induction d with
  | zero =>
    intro q h hd hq hp hs ha hb ht
    have hqn : 20 * q = n := by omega
    obtain ⟨h', e1, e2, e3⟩ := ins_spec hn (show 20 * q ≤ n by omega) (Nat.le_refl n) h ha
    refine ⟨h', hp.trans (e2.widen (by omega) (Nat.le_refl _)), fun q' => ⟨fun i j h1 h2 h3 h4 => ?_, fun i j h1 h2 h3 => ?_⟩, fun r hr => ?_⟩
    · have : q' < q := by omega
      rw [e2.1 i (by omega), e2.1 j (by omega)]
      exact hb q' this i j (by omega) h2 (by omega) h4
    · have : q' ≤ q := by omega
      exact tagsAt_keep (ht q' this) e2 (Nat.le_refl _) (by omega) i j (by omega) (by omega) h3
    · refine Ev.step (fun k => by simp only [api_Edit_41.l0]; rw [if_neg (by omega)]) ?_
      exact Ev.bind e1 hr
  | succ d ih =>
    intro q h hd hq hp hs ha hb ht
    by_cases c : 20 * q + 20 ≤ n
    · obtain ⟨h', e1, e2, e3⟩ := ins_spec hn (show 20 * q ≤ 20 * q + 20 by omega) c h (fun i j h1 h2 h3 => ha i j h1 h2 (by omega))
      obtain ⟨h'', f1, f2, f3⟩ := ih (q + 1) h' (by omega) (by omega) (hp.trans (e2.widen (by omega) (by omega))) (fun x hx => by rw [e2.1 x (by omega)]; exact hs x (by omega)) (fun i j h1 h2 h3 => by rw [e2.1 i (by omega), e2.1 j (by omega)]; exact ha i j (by omega) h2 h3)
        (fun q' hq' i j h1 h2 h3 h4 => by
          by_cases cq : q' = q
          · subst cq
            exact e3 i j h1 h2 h3
          · rw [e2.1 i (by omega), e2.1 j (by omega)]
            exact hb q' (by omega) i j h1 h2 h3 h4)
        (fun q' hq' => by
          by_cases cq : q' = q + 1
          · subst cq
            intro i j h1 h2 h3
            rw [e2.1 j (by omega)]
            by_cases ci : 20 * q ≤ i
            · obtain ⟨i', g1, g2, g3⟩ := e2.2.1 i ci (by omega)
              rw [g3]
              exact ha i' j g1 (by omega) h3
            · rw [e2.1 i (by omega)]
              exact ht q (Nat.le_refl _) i j (by omega) (by omega) h3
          · exact tagsAt_keep (ht q' (by omega)) e2 c (by omega))
      refine ⟨h'', f1, f2, fun r hr => ?_⟩
      have := f3 r hr
      rw [show 20 * (q + 1) = 20 * q + 20 by omega] at this
      refine Ev.step (fun k => by simp only [api_Edit_41.l0]; rw [if_pos (by omega), wrap_id (x := ((20 * q + 20 : Nat) : Int) + 20) (by omega) (by omega), show ((20 * q + 20 : Nat) : Int) + 20 = ((20 * q + 20 + 20 : Nat) : Int) by omega]) ?_
      exact Ev.bind e1 this
    · obtain ⟨h', e1, e2, e3⟩ := ins_spec hn hq (Nat.le_refl n) h ha
      refine ⟨h', hp.trans (e2.widen (by omega) (Nat.le_refl _)), fun q' => ⟨fun i j h1 h2 h3 h4 => ?_, fun i j h1 h2 h3 => ?_⟩, fun r hr => ?_⟩
      · by_cases cq : q' < q
        · rw [e2.1 i (by omega), e2.1 j (by omega)]
          exact hb q' cq i j (by omega) h2 (by omega) h4
        · exact e3 i j (by omega) h2 h4
      · have : q' ≤ q := by omega
        exact tagsAt_keep (ht q' this) e2 (Nat.le_refl _) (by omega) i j (by omega) (by omega) h3
      · refine Ev.step (fun k => by simp only [api_Edit_41.l0]; rw [if_neg (by omega)]) ?_
        exact Ev.bind e1 hr
theorem pass_l2 {n B : Nat} (hn : n ≤ 1000000) (hB : 0 < B) (hB2 : B ≤ 1000000) {g0 g : Nat → T} (hg : Blk n B g) : ∀ (d q : Nat) (h : Nat → T), n - q * (2 * B) ≤ d → q * (2 * B) ≤ n → PO 0 n g0 h → (∀ x, q * (2 * B) ≤ x → h x = g x) → (∀ q', q' < q → ssIn n (q' * (2 * B)) (q' * (2 * B) + 2 * B) h) → (∀ q', tagsAt n (q' * (2 * B)) h) →
    ∃ h', PO 0 n g0 h' ∧ Blk n (2 * B) h' ∧ ∀ r, Ev (fun k => api_Edit_41.l1 k (lst h' n) (n : Int) ((2 * B : Nat) : Int)) r → Ev (fun k => api_Edit_41.l2 k (lst h n) (n : Int) (B : Int) ((q * (2 * B) : Nat) : Int) ((q * (2 * B) + 2 * B : Nat) : Int)) r := by
  intro d
  induction d with
  | zero =>
    intro q h hd hq hp hs hb ht
    have ea : q * (2 * B) = n := by omega
    refine ⟨h, hp, fun q' => ⟨fun i j h1 h2 h3 h4 => ?_, ht q'⟩, fun r hr => ?_⟩
    · by_cases cq : q' < q
      · exact hb q' cq i j h1 h2 h3 h4
      · have := Nat.mul_le_mul_right (2 * B) (show q ≤ q' by omega)
        omega
    · refine Ev.step (fun k => ?_) hr
      simp only [api_Edit_41.l2]
      rw [if_neg (by omega), wrap_id (x := ((q * (2 * B) : Nat) : Int) + B) (by omega) (by omega), if_neg (by omega), wrap_id (x := (B : Int) * 2) (by omega) (by omega), show (B : Int) * 2 = ((2 * B : Nat) : Int) by omega]
  | succ d ih =>
    intro q h hd hq hp hs hb ht
    have e2q : q * (2 * B) = 2 * q * B := by rw [← Nat.mul_assoc, Nat.mul_comm q 2]
    have e2q1 : (2 * q + 1) * B = 2 * q * B + B := Nat.succ_mul _ _
    have esucc : (q + 1) * (2 * B) = q * (2 * B) + 2 * B := Nat.succ_mul _ _
    have far : ∀ q', q < q' → q * (2 * B) + 2 * B ≤ q' * (2 * B) := fun q' hq' => by
      have := Nat.mul_le_mul_right (2 * B) (show q + 1 ≤ q' by omega)
      omega
    have near : ∀ q', q' < q → q' * (2 * B) + 2 * B ≤ q * (2 * B) := fun q' hq' => by
      have := Nat.mul_le_mul_right (2 * B) (show q' + 1 ≤ q by omega)
      rw [Nat.succ_mul] at this
      exact this
    generalize ha : q * (2 * B) = a at *
    have hL : ∀ b, b ≤ a + B → b ≤ n → SS a b h := fun b hb1 hb2 i j h1 h2 h3 => by
      rw [hs i h1, hs j (by omega)]
      exact (hg (2 * q)).1 i j (by omega) h2 (by omega) (by omega)
    have hR : ∀ b, b ≤ a + 2 * B → b ≤ n → SS (a + B) b h := fun b hb1 hb2 i j h1 h2 h3 => by
      rw [hs i (by omega), hs j (by omega)]
      exact (hg (2 * q + 1)).1 i j (by omega) h2 (by omega) (by omega)
    have hT : ∀ b, b ≤ n → tags a (a + B) b h := fun b hb1 i j h1 h2 h3 h4 => by
      rw [hs i h1, hs j (by omega)]
      exact (hg (2 * q + 1)).2 i j (by omega) (by omega) (by omega)
    by_cases c : a + 2 * B ≤ n
    · obtain ⟨h', e1, e2, e3⟩ := merges hn (2 * B) a (a + B) (a + 2 * B) h (by omega) (by omega) (by omega) c (hL _ (by omega) (by omega)) (hR _ (by omega) c) (hT _ c)
      obtain ⟨h'', f1, f2, f3⟩ := ih (q + 1) h' (by omega) (by omega) (hp.trans (e2.widen (by omega) c)) (fun x hx => by rw [e2.1 x (by omega)]; exact hs x (by omega))
        (fun q' hq' i j h1 h2 h3 h4 => by
          by_cases cq : q' = q
          · subst cq
            exact e3 i j (by omega) h2 (by omega)
          · have := near q' (by omega)
            rw [e2.1 i (by omega), e2.1 j (by omega)]
            exact hb q' (by omega) i j h1 h2 h3 h4)
        (fun q' => by
          refine tagsAt_keep (ht q') e2 c ?_
          by_cases cq : q' < q
          · have := near q' cq
            omega
          · by_cases cq2 : q' = q
            · subst cq2
              omega
            · have := far q' (by omega)
              omega)
      refine ⟨h'', f1, f2, fun r hr => ?_⟩
      have := f3 r hr
      rw [esucc] at this
      refine Ev.step (fun k => by simp only [api_Edit_41.l2]; rw [if_pos (by omega), wrap_id (x := (a : Int) + B) (by omega) (by omega), show (a : Int) + B = ((a + B : Nat) : Int) by omega, wrap_id (x := 2 * (B : Int)) (by omega) (by omega), wrap_id (x := ((a + 2 * B : Nat) : Int) + 2 * (B : Int)) (by omega) (by omega), show ((a + 2 * B : Nat) : Int) + 2 * (B : Int) = ((a + 2 * B + 2 * B : Nat) : Int) by omega]) ?_
      exact Ev.bind e1 this
    · by_cases c2 : a + B < n
      · obtain ⟨h', e1, e2, e3⟩ := merges hn (2 * B) a (a + B) n h (by omega) (by omega) c2 (Nat.le_refl _) (hL _ (by omega) (by omega)) (hR _ (by omega) (Nat.le_refl _)) (hT _ (Nat.le_refl _))
        refine ⟨h', hp.trans (e2.widen (by omega) (Nat.le_refl _)), fun q' => ⟨fun i j h1 h2 h3 h4 => ?_, ?_⟩, fun r hr => ?_⟩
        · by_cases cq : q' < q
          · have := near q' cq
            rw [e2.1 i (by omega), e2.1 j (by omega)]
            exact hb q' cq i j h1 h2 h3 h4
          · by_cases cq2 : q' = q
            · subst cq2
              exact e3 i j (by omega) h2 h4
            · have := far q' (by omega)
              omega
        · refine tagsAt_keep (ht q') e2 (Nat.le_refl _) ?_
          by_cases cq : q' < q
          · have := near q' cq
            omega
          · by_cases cq2 : q' = q
            · subst cq2
              omega
            · have := far q' (by omega)
              omega
        · refine Ev.step (fun k => by simp only [api_Edit_41.l2]; rw [if_neg (by omega), wrap_id (x := (a : Int) + B) (by omega) (by omega), if_pos (by omega), show (a : Int) + B = ((a + B : Nat) : Int) by omega, wrap_id (x := (B : Int) * 2) (by omega) (by omega), show (B : Int) * 2 = ((2 * B : Nat) : Int) by omega]) ?_
          exact Ev.bind e1 hr
      · refine ⟨h, hp, fun q' => ⟨fun i j h1 h2 h3 h4 => ?_, ht q'⟩, fun r hr => ?_⟩
        · by_cases cq : q' < q
          · exact hb q' cq i j h1 h2 h3 h4
          · by_cases cq2 : q' = q
            · subst cq2
              exact hL n (by omega) (Nat.le_refl _) i j (by omega) h2 h4
            · have := far q' (by omega)
              omega
        · refine Ev.step (fun k => ?_) hr
          simp only [api_Edit_41.l2]
          rw [if_neg (by omega), wrap_id (x := (a : Int) + B) (by omega) (by omega), if_neg (by omega), wrap_id (x := (B : Int) * 2) (by omega) (by omega), show (B : Int) * 2 = ((2 * B : Nat) : Int) by omega]
theorem passes {n : Nat} (hn : n ≤ 1000000) {g0 : Nat → T} : ∀ (d B : Nat) (h : Nat → T), n - B ≤ d → 0 < B → B ≤ 2000000 → PO 0 n g0 h → Blk n B h → ∃ h', PO 0 n g0 h' ∧ SS 0 n h' ∧ Ev (fun k => api_Edit_41.l1 k (lst h n) (n : Int) (B : Int)) (lst h' n) := by
  intro d
  induction d with
  | zero =>
    intro B h hd hB hB2 hp hk
    refine ⟨h, hp, fun i j h1 h2 h3 => (hk 0).1 i j (by omega) h2 (by omega) h3, Ev.step (f := fun _ => some (lst h n)) (fun k => ?_) (Ev.now _)⟩
    simp only [api_Edit_41.l1]
    rw [if_neg (by omega)]
  | succ d ih =>
    intro B h hd hB hB2 hp hk
    by_cases c : B < n
    · obtain ⟨h1, p1, p2, p3⟩ := pass_l2 hn hB (by omega) hk n 0 h (by omega) (by omega) hp (fun x _ => rfl) (fun q' hq' => by omega) (fun q' => by
        have := (hk (2 * q')).2
        rwa [show q' * (2 * B) = 2 * q' * B by rw [← Nat.mul_assoc, Nat.mul_comm q' 2]])
      obtain ⟨h', q1, q2, q3⟩ := ih (2 * B) h1 (by omega) (by omega) (by omega) p1 p2
      refine ⟨h', q1, q2, ?_⟩
      have := p3 _ q3
      rw [Nat.zero_mul, Nat.zero_add] at this
      refine Ev.step (fun k => ?_) this
      simp only [api_Edit_41.l1]
      rw [if_pos (by omega), wrap_id (x := 2 * (B : Int)) (by omega) (by omega), show 2 * (B : Int) = ((2 * B : Nat) : Int) by omega]
      rfl
    · refine ⟨h, hp, fun i j h1 h2 h3 => (hk 0).1 i j (by omega) h2 (by omega) h3, Ev.step (f := fun _ => some (lst h n)) (fun k => ?_) (Ev.now _)⟩
      simp only [api_Edit_41.l1]
      rw [if_neg (by omega)]
theorem stable_spec {n : Nat} (hn : n ≤ 1000000) (g : Nat → T) (ha : asc 0 n g) : ∃ h, Ev (fun k => api_Edit_41.f k (lst g n) (n : Int)) (lst h n) ∧ PO 0 n g h ∧ SS 0 n h := by
  obtain ⟨h1, p1, p2, p3⟩ := first_l0 hn n 0 g (by omega) (by omega) (PO.refl _ _ _) (fun x _ => rfl) (fun i j h1 h2 h3 => ha i j (by omega) h2 h3) (fun q' hq' => by omega) (fun q' hq' i j h1 h2 h3 => by omega)
  obtain ⟨h', q1, q2, q3⟩ := passes hn n 20 h1 (by omega) (by omega) (by omega) p1 p2
  exact ⟨h', p3 _ q3, q1, q2⟩
/-- Edits, numbered. -/
def num (l : List S47) (i : Nat) : T := (l.getD i z47, i)
theorem lst_num (l : List S47) : lst (num l) l.length = l := by
  apply List.ext_getElem?
  intro i
  by_cases hi : i < l.length
  · unfold lst num
    rw [List.getElem?_map, List.getElem?_range hi, List.getElem?_eq_getElem hi]
    simp [List.getD_eq_getElem?_getD, List.getElem?_eq_getElem hi]
  · rw [List.getElem?_eq_none (by rw [lst_len]; omega), List.getElem?_eq_none (by omega)]
theorem num_asc (l : List S47) (n : Nat) : asc 0 n (num l) := fun i j _ h _ => h
/-- The order of a list's edits: by place, then by end, then by number. -/
def Order (l : List S47) (h : Nat → T) : Prop := PO 0 l.length (num l) h ∧ SS 0 l.length h
theorem Order.unique {l : List S47} {h k : Nat → T} (H : Order l h) (K : Order l k) : ∀ i, i < l.length → h i = k i := by
  intro i
  induction i using Nat.strongRecOn with
  | _ i ih =>
    intro hi
    obtain ⟨j, _, j1, ej⟩ := H.1.2.1 i (Nat.zero_le _) hi
    obtain ⟨x, _, x1, ex⟩ := K.1.2.2 j (Nat.zero_le _) j1
    obtain ⟨j', _, j2, ej'⟩ := K.1.2.1 i (Nat.zero_le _) hi
    obtain ⟨y, _, y1, ey⟩ := H.1.2.2 j' (Nat.zero_le _) j2
    have e1 : h i = k x := ej.trans ex.symm
    have e2 : k i = h y := ej'.trans ey.symm
    have hx : ¬ x < i := fun c => by
      have t := H.2 x i (Nat.zero_le _) c hi
      rw [ih x c x1, ← e1] at t
      exact tlt_asymm t t
    have hy : ¬ y < i := fun c => by
      have t := K.2 y i (Nat.zero_le _) c hi
      rw [← ih y c y1, ← e2] at t
      exact tlt_asymm t t
    by_cases cx : x = i
    · rw [e1, cx]
    · have t := K.2 i x (Nat.zero_le _) (by omega) x1
      rw [e2, ← e1] at t
      by_cases cy : y = i
      · rw [cy] at t
        exact absurd t (tlt_asymm t)
      · exact absurd t (tlt_asymm (H.2 i y (Nat.zero_le _) (by omega) y1))
theorem Sorted_ev (l : List S47) (hl : l.length ≤ 100000) : ∃ h, Order l h ∧ Ev (fun k => edit_Sorted.f k l) (lst h l.length) := by
  obtain ⟨h, e1, e2, e3⟩ := stable_spec (n := l.length) (by omega) (num l) (num_asc l _)
  rw [lst_num] at e1
  refine ⟨h, ⟨e2, e3⟩, ?_⟩
  unfold edit_Sorted.f
  refine Ev.bind (evs (r := l) ?_) ?_
  · unfold api_Edit_35.f
    rw [if_pos (by omega)]
  refine Ev.bind (a := lst h l.length) ?_ (Ev.now _)
  unfold api_Edit_36.f
  exact Ev.bind (f := fun _ t => some t) e1 (Ev.now _)
/-! ### the document's sort -/
theorem ahead_eq (x y : S47) : orielref02_ahead.f x.f0 x.f1 x.f2 y.f0 y.f1 y.f2 = some (decide (klt x y)) := by
  unfold orielref02_ahead.f klt
  by_cases c : x.f0 < y.f0
  · rw [if_pos c]
    simp [c]
  · rw [if_neg c]
    by_cases d : x.f0 = y.f0
    · rw [if_pos d]
      simp [d]
    · rw [if_neg d]
      simp [c, d]
theorem lst_congr {h k : Nat → T} {n : Nat} (e : ∀ i, i < n → h i = k i) : lst h n = lst k n := by
  unfold lst
  refine List.map_congr_left (fun i hi => ?_)
  rw [e i (List.mem_range.mp hi)]
end Go.Proofs.Ytmgeheomokjimaa.SortC
