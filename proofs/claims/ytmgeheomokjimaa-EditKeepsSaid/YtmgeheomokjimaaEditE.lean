/- Which bytes edits leave, and where these stand then: the document's answers as plain functions of lists, and that they are the program's. Plain theorems; no condition but those of each theorem. -/
import Derived.Test.YtmgeheomokjimaaEditC
import Derived.Test.YtmgeheomokjimaaPAllx6
import Derived.Test.YtmgeheomokjimaaPAllx14
import Derived.Test.YtmgeheomokjimaaPAllx15
import Derived.Test.YtmgeheomokjimaaPAllx16
import Derived.Test.YtmgeheomokjimaaPAllx17
namespace Go.Proofs.Ytmgeheomokjimaa.EditE
open Go.RowKit Go.Proofs.YtmgeheomokjimaaW.PrintWords Go.Proofs.YtmgeheomokjimaaW.PrintLast Go.Proofs.YtmgeheomokjimaaW.PrintMore Go.Proofs.Ytmgeheomokjimaa.PAll Go.Proofs.Ytmgeheomokjimaa.Frame Go.Proofs.Ytmgeheomokjimaa.EditA Go.Proofs.Ytmgeheomokjimaa.EditB Go.Proofs.Ytmgeheomokjimaa.EditC
set_option linter.unusedVariables false
set_option linter.unusedSimpArgs false

/-! ### Two lists that are one -/
theorem Pairs_l0 (l : List S45) (hl : l.length ≤ 9223372036854775807) : ∀ (r pre : List S45), l = pre ++ r → Ev (fun k => orielref02_Pairs.l0 k l l (pre.length : Int)) true := by
  intro r
  induction r with
  | nil =>
    intro pre he
    refine Ev.step (f := fun _ => some true) (fun k => ?_) (Ev.now _)
    simp only [orielref02_Pairs.l0]
    rw [if_neg (by rw [he]; simp)]
  | cons x r ih =>
    intro pre he
    have hlen : l.length = pre.length + 1 + r.length := by rw [he]; simp only [List.length_append, List.length_cons]; omega
    have hi := ih (pre ++ [x]) (by rw [he]; simp)
    refine Ev.step (fun k => ?_) hi
    simp only [orielref02_Pairs.l0]
    rw [if_pos (by omega), if_pos (by omega), if_pos (by omega), if_neg (by simp), wrap_id (by omega) (by omega)]
    simp
theorem Pairs_ev (l : List S45) (hl : l.length ≤ 9223372036854775807) : Ev (fun k => orielref02_Pairs.f k l l) true := by
  unfold orielref02_Pairs.f
  exact Ev.ite_pos rfl (Pairs_l0 l hl l [] rfl)
theorem Ints_l0 (l : List Int) (hl : l.length ≤ 9223372036854775807) : ∀ (r pre : List Int), l = pre ++ r → Ev (fun k => oriellaw01_Ints.l0 k l l (l.length : Int) (pre.length : Int)) true := by
  intro r
  induction r with
  | nil =>
    intro pre he
    refine Ev.step (f := fun _ => some true) (fun k => ?_) (Ev.now _)
    simp only [oriellaw01_Ints.l0]
    rw [if_neg (by rw [he]; simp)]
  | cons x r ih =>
    intro pre he
    have hlen : l.length = pre.length + 1 + r.length := by rw [he]; simp only [List.length_append, List.length_cons]; omega
    have hi := ih (pre ++ [x]) (by rw [he]; simp)
    refine Ev.step (fun k => ?_) hi
    simp only [oriellaw01_Ints.l0]
    rw [if_pos (by omega), if_pos (by omega), if_pos (by omega), if_pos (by omega), if_true, wrap_id (by omega) (by omega)]
    simp
theorem Ints_ev (l : List Int) (hl : l.length ≤ 9223372036854775807) : Ev (fun k => oriellaw01_Ints.f k l l) true := by
  unfold oriellaw01_Ints.f
  exact Ev.ite_pos rfl (Ints_l0 l hl l [] rfl)

/-! ### Where a byte stands then -/
/-- The place that a byte has then; none: it is taken, or there is no such byte. -/
def mapS (n : Int) : List S47 → Int → Int → Int → Option Int
  | [], a, m, i => if a ≤ i ∧ i < n then some (i + m) else none
  | x :: r, a, m, i => if a ≤ i ∧ i < x.f0 then some (i + m) else mapS n r x.f1 (m + (x.f2.size - (x.f1 - x.f0))) i
def asMap : Option Int → Int × Bool
  | some v => (v, true)
  | none => (0, false)
/-- The same out of the stretches. -/
def look : List S45 → List Int → Int → Option Int
  | p :: ks, q :: ts, i => if p.f0 ≤ i ∧ i < p.f1 then some (q + i - p.f0) else look ks ts i
  | _, _, _ => none
theorem look_opt (a e m i : Int) (ks : List S45) (ts : List Int) :
    look ((if a < e then [(⟨a, e⟩ : S45)] else []) ++ ks) ((if a < e then [a + m] else []) ++ ts) i = if a ≤ i ∧ i < e then some (i + m) else look ks ts i := by
  by_cases c : a < e
  · rw [if_pos c, if_pos c]
    show (if a ≤ i ∧ i < e then some (a + m + i - a) else look ks ts i) = _
    rw [show a + m + i - a = i + m by omega]
  · rw [if_neg c, if_neg c, if_neg (by omega)]
    rfl
theorem look_map (n i : Int) (l : List S47) : ∀ a m : Int, look (kP n l a) (kT n l a m) i = mapS n l a m i := by
  induction l with
  | nil =>
    intro a m
    have := look_opt a n m i [] []
    simp only [List.append_nil] at this
    exact this
  | cons x r ih =>
    intro a m
    simp only [kP, kT, mapS, look_opt, ih]
theorem g_look (i : Int) (n : Int) (K : List S45) (Q : List Int) (hl : K.length ≤ 1000) : ∀ (ks : List S45) (ts : List Int) (pk : List S45) (pt : List Int), K = pk ++ ks → Q = pt ++ ts → pk.length = pt.length → ks.length = ts.length → (∀ q ∈ ts, -10000 ≤ q ∧ q ≤ 10000) → (∀ p ∈ ks, 0 ≤ p.f0 ∧ p.f1 ≤ 10000) →
    (pairIdx ks i (pk.length : Int) = -1 ∧ look ks ts i = none) ∨ (0 ≤ pairIdx ks i (pk.length : Int) ∧ pairIdx ks i (pk.length : Int) < Q.length ∧ look ks ts i = some (wrap64 (wrap64 (rd Q (pairIdx ks i (pk.length : Int)) + i) - (rd_T45 K (pairIdx ks i (pk.length : Int))).f0))) := by
  intro ks
  induction ks with
  | nil => intro ts pk pt _ _ _ _ _ _; exact Or.inl ⟨rfl, rfl⟩
  | cons p ks ih =>
    intro ts pk pt hk hq hpl hkl hb hpb
    cases ts with
    | nil => simp at hkl
    | cons q ts =>
      have e1 : rd_T45 K (pk.length : Int) = p := by rw [hk]; exact rd_pair pk p ks
      have e2 : rd Q (pk.length : Int) = q := by rw [hq, hpl]; exact rd_int pt q ts
      have hq1 := hb q List.mem_cons_self
      have hp1 := hpb p List.mem_cons_self
      rw [pairIdx_cons]
      by_cases c : p.f0 ≤ i ∧ i < p.f1
      · right
        rw [if_pos c, e1, e2]
        have hQ : Q.length = pk.length + 1 + ts.length := by rw [hq, hpl]; simp only [List.length_append, List.length_cons]; omega
        refine ⟨by omega, by omega, ?_⟩
        simp only [look]
        rw [if_pos c, wrap_id (x := q + i) (by omega) (by omega), wrap_id (x := q + i - p.f0) (by omega) (by omega)]
      · rw [if_neg c]
        simp only [look]
        rw [if_neg c]
        have := ih ts (pk ++ [p]) (pt ++ [q]) (by rw [hk]; simp) (by rw [hq]; simp) (by simp [hpl]) (by simpa using hkl) (fun z hz => hb z (List.mem_cons_of_mem _ hz)) (fun z hz => hpb z (List.mem_cons_of_mem _ hz))
        rw [show (((pk ++ [p]).length : Nat) : Int) = (pk.length : Int) + 1 by simp] at this
        exact this
theorem kP_bounds (n : Int) (hn : n ≤ 10000) (l : List S47) : ∀ a : Int, Chain n a l → ∀ p ∈ kP n l a, 0 ≤ p.f0 ∧ p.f1 ≤ 10000 := by
  induction l with
  | nil =>
    intro a hc p hp
    have := hc.le
    simp only [kP] at hp
    split at hp
    · simp only [List.mem_singleton] at hp
      subst hp
      dsimp only
      omega
    · cases hp
  | cons x r ih =>
    intro a hc p hp
    obtain ⟨c0, c1, c2, c3⟩ := hc
    have := c3.le
    simp only [kP, List.mem_append] at hp
    cases hp with
    | inl hp =>
      split at hp
      · simp only [List.mem_singleton] at hp
        subst hp
        dsimp only
        omega
      · cases hp
    | inr hp => exact ih x.f1 c3 p hp
theorem kT_bounds (n : Int) (hn : n ≤ 4000) (l : List S47) : ∀ a m : Int, Chain n a l → m + sumSize l ≤ 6000 → -a ≤ m → ∀ q ∈ kT n l a m, -10000 ≤ q ∧ q ≤ 10000 := by
  induction l with
  | nil =>
    intro a m hc h1 h2 q hq
    have := hc.le
    simp only [sumSize] at h1
    simp only [kT] at hq
    split at hq
    · simp only [List.mem_singleton] at hq
      subst hq
      omega
    · cases hq
  | cons x r ih =>
    intro a m hc h1 h2 q hq
    obtain ⟨c0, c1, c2, c3⟩ := hc
    have := c3.le
    simp only [sumSize] at h1
    have h5 := sumSize_nonneg r
    simp only [kT, List.mem_append] at hq
    cases hq with
    | inl hq =>
      split at hq
      · simp only [List.mem_singleton] at hq
        subst hq
        omega
      · cases hq
    | inr hq => exact ih x.f1 _ c3 (by omega) (by omega) q hq
theorem Map_ev (n i : Int) (hn : n ≤ 4000) (l : List S47) (hl : l.length ≤ 100) (hz : sumSize l ≤ 6000) :
    Ev (fun k => edit_Map.f k n i l) (if checkSpec n l = 0 then asMap (mapS n l 0 0 i) else (0, false)) := by
  unfold edit_Map.f
  refine Ev.bind (Kept_ev n (by omega) l hl (by omega)) ?_
  by_cases c : checkSpec n l = 0
  · rw [if_pos c, if_pos c]
    have hc := chain_zero c
    have hkl := kP_len n l 0
    have hkt := kPT_len n l 0 0
    have h := g_look i n (kP n l 0) (kT n l 0 0) (by omega) (kP n l 0) (kT n l 0 0) [] [] rfl rfl rfl hkt (kT_bounds n hn l 0 0 hc (by omega) (by omega)) (kP_bounds n (by omega) l 0 hc)
    rw [look_map] at h
    simp only [List.length_nil, Int.natCast_zero] at h
    dsimp only
    rcases h with ⟨h1, h2⟩ | ⟨h1, h2, h3⟩
    · rw [h2]
      refine Ev.congr (f := fun _ => some (asMap _)) (fun k => ?_) (Ev.now _)
      unfold edit_Map.g
      rw [h1, if_pos (by omega)]
      rfl
    · rw [h3]
      refine Ev.congr (f := fun _ => some (asMap _)) (fun k => ?_) (Ev.now _)
      unfold edit_Map.g
      rw [if_neg (by omega), if_pos h2]
      rfl
  · rw [if_neg c, if_neg c]
    exact Ev.now _

/-! ### The document's answer -/
/-- Does no edit take a byte? -/
def unt : List S47 → Int → Bool
  | [], _ => true
  | x :: r, i => !(decide (x.f0 ≤ i ∧ i < x.f1)) && unt r i
theorem taken_l0 (i : Int) (l : List S47) (hl : l.length ≤ 9223372036854775807) : ∀ (r pre : List S47), l = pre ++ r → ∃ v : Int, Ev (fun k => orielref02_taken.l0 k i l (pre.length : Int)) v ∧ (v < 0 ↔ unt r i = true) := by
  intro r
  induction r with
  | nil =>
    intro pre he
    refine ⟨-1, Ev.step (f := fun _ => some (-1)) (fun k => ?_) (Ev.now _), by simp [unt]⟩
    simp only [orielref02_taken.l0]
    rw [if_neg (by rw [he]; simp)]
  | cons x r ih =>
    intro pre he
    have hlen : l.length = pre.length + 1 + r.length := by rw [he]; simp only [List.length_append, List.length_cons]; omega
    have e2 : rd_T47 l (pre.length : Int) = x := by rw [he]; exact rd_mid pre x r
    by_cases c : x.f0 ≤ i ∧ i < x.f1
    · refine ⟨(pre.length : Int), Ev.step (f := fun _ => some (pre.length : Int)) (fun k => ?_) (Ev.now _), ?_⟩
      · simp only [orielref02_taken.l0]
        rw [if_pos (by omega), if_pos (by omega), e2, if_pos c.1, if_pos c.2]
      · simp only [unt, c, and_self, decide_true, Bool.not_true, Bool.false_and]
        constructor
        · intro h; omega
        · intro h; cases h
    · obtain ⟨v, hv, hv2⟩ := ih (pre ++ [x]) (by rw [he]; simp)
      refine ⟨v, ?_, ?_⟩
      · refine Ev.step (fun k => ?_) hv
        simp only [orielref02_taken.l0]
        rw [if_pos (by omega), if_pos (by omega), e2, wrap_id (x := (pre.length : Int) + 1) (by omega) (by omega), show (((pre ++ [x]).length : Nat) : Int) = (pre.length : Int) + 1 by simp]
        by_cases d : x.f0 ≤ i
        · rw [if_pos d, if_neg (by omega)]
        · rw [if_neg d]
      · rw [hv2]
        simp only [unt, c, decide_false, Bool.not_false, Bool.true_and]
theorem taken_ev (i : Int) (l : List S47) (hl : l.length ≤ 9223372036854775807) : ∃ v : Int, Ev (fun k => orielref02_taken.f k i l) v ∧ (v < 0 ↔ unt l i = true) := taken_l0 i l hl l [] rfl
/-- How many bytes of a row of them no edit takes. -/
def cnt (l : List S47) : Int → Nat → Int
  | _, 0 => 0
  | i, d + 1 => (if unt l i = true then 1 else 0) + cnt l (i + 1) d
theorem cnt_range (l : List S47) (d : Nat) : ∀ i : Int, 0 ≤ cnt l i d ∧ cnt l i d ≤ d := by
  induction d with
  | zero => intro i; simp [cnt]
  | succ d ih =>
    intro i
    have := ih (i + 1)
    simp only [cnt]
    split <;> omega
theorem cnt_add (l : List S47) (d e : Nat) : ∀ i : Int, cnt l i (d + e) = cnt l i d + cnt l (i + d) e := by
  induction d with
  | zero => intro i; simp [cnt]
  | succ d ih =>
    intro i
    rw [show d + 1 + e = (d + e) + 1 by omega]
    simp only [cnt]
    rw [ih (i + 1), show i + 1 + (d : Int) = i + ((d + 1 : Nat) : Int) by omega]
    omega
theorem cnt_all (l : List S47) (d : Nat) : ∀ i : Int, (∀ j : Int, i ≤ j → j < i + d → unt l j = true) → cnt l i d = d := by
  induction d with
  | zero => intro i _; rfl
  | succ d ih =>
    intro i h
    simp only [cnt]
    rw [if_pos (h i (by omega) (by omega)), ih (i + 1) (fun j h1 h2 => h j (by omega) (by omega))]
    omega
theorem cnt_none (l : List S47) (d : Nat) : ∀ i : Int, (∀ j : Int, i ≤ j → j < i + d → unt l j = false) → cnt l i d = 0 := by
  induction d with
  | zero => intro i _; rfl
  | succ d ih =>
    intro i h
    simp only [cnt]
    rw [h i (by omega) (by omega), ih (i + 1) (fun j h1 h2 => h j (by omega) (by omega))]
    simp
theorem cnt_congr (l r : List S47) (d : Nat) : ∀ i : Int, (∀ j : Int, i ≤ j → j < i + d → unt l j = unt r j) → cnt l i d = cnt r i d := by
  induction d with
  | zero => intro i _; rfl
  | succ d ih =>
    intro i h
    simp only [cnt]
    rw [h i (by omega) (by omega), ih (i + 1) (fun j h1 h2 => h j (by omega) (by omega))]
/-- How many bytes edits put there up to a place. -/
def sumAt (i : Int) : List S47 → Int
  | [] => 0
  | x :: r => (if x.f0 ≤ i then (x.f2.size : Int) else 0) + sumAt i r
theorem sumAt_range (i : Int) (l : List S47) : 0 ≤ sumAt i l ∧ sumAt i l ≤ sumSize l := by
  induction l with
  | nil => simp [sumAt, sumSize]
  | cons x r ih => simp only [sumAt, sumSize]; split <;> omega
theorem sumAt_late (i : Int) (l : List S47) (h : ∀ x ∈ l, i < x.f0) : sumAt i l = 0 := by
  induction l with
  | nil => rfl
  | cons x r ih =>
    have := h x List.mem_cons_self
    simp only [sumAt]
    rw [if_neg (by omega), ih (fun y hy => h y (List.mem_cons_of_mem _ hy))]
    rfl
theorem unt_late (i : Int) (l : List S47) (h : ∀ x ∈ l, i < x.f0) : unt l i = true := by
  induction l with
  | nil => rfl
  | cons x r ih =>
    have := h x List.mem_cons_self
    simp only [unt]
    rw [ih (fun y hy => h y (List.mem_cons_of_mem _ hy)), decide_eq_false (by omega)]
    rfl
theorem Chain.ahead {n a : Int} {l : List S47} (h : Chain n a l) : ∀ x ∈ l, a ≤ x.f0 ∧ x.f0 ≤ x.f1 := by
  induction l generalizing a with
  | nil => intro x hx; cases hx
  | cons x r ih =>
    obtain ⟨c0, c1, c2, c3⟩ := h
    intro y hy
    cases hy with
    | head => omega
    | tail _ hy =>
      have := ih c3 y hy
      omega
theorem mapS_unt (n i : Int) (l : List S47) : ∀ a m : Int, Chain n a l → a ≤ i → i < n → (mapS n l a m i = none ↔ unt l i = false) := by
  induction l with
  | nil =>
    intro a m hc h1 h2
    simp only [mapS, unt]
    rw [if_pos ⟨h1, h2⟩]
    simp
  | cons x r ih =>
    intro a m hc h1 h2
    obtain ⟨c0, c1, c2, c3⟩ := hc
    simp only [mapS, unt]
    by_cases c : i < x.f0
    · rw [if_pos ⟨h1, c⟩, decide_eq_false (by omega), unt_late i r (fun y hy => by have := Chain.ahead c3 y hy; omega)]
      simp
    · rw [if_neg (by omega)]
      by_cases d : i < x.f1
      · rw [decide_eq_true (by omega)]
        have hn : ∀ (r : List S47) (a m : Int), Chain n a r → i < a → mapS n r a m i = none := by
          intro r
          induction r with
          | nil => intro a m _ h; simp only [mapS]; rw [if_neg (by omega)]
          | cons y r ih =>
            intro a m hc h
            obtain ⟨d0, d1, d2, d3⟩ := hc
            simp only [mapS]
            rw [if_neg (by omega)]
            exact ih y.f1 _ d3 (by omega)
        rw [hn r x.f1 _ c3 d]
        simp
      · rw [decide_eq_false (by omega)]
        simp only [Bool.not_false, Bool.true_and]
        exact ih x.f1 _ c3 (by omega) h2
theorem mapS_cnt (n i : Int) (l : List S47) : ∀ a m v : Int, Chain n a l → mapS n l a m i = some v → a ≤ i ∧ i < n ∧ cnt l a (i - a).toNat + sumAt i l = v - (a + m) := by
  induction l with
  | nil =>
    intro a m v hc h
    simp only [mapS] at h
    split at h
    · rename_i c
      have hv := Option.some.inj h
      refine ⟨c.1, c.2, ?_⟩
      rw [cnt_all [] _ a (fun _ _ _ => rfl)]
      simp only [sumAt]
      omega
    · cases h
  | cons x r ih =>
    intro a m v hc h
    obtain ⟨c0, c1, c2, c3⟩ := hc
    have c4 := c3.le
    simp only [mapS] at h
    split at h
    · rename_i c
      have hv := Option.some.inj h
      refine ⟨c.1, by omega, ?_⟩
      have hl : ∀ j : Int, j ≤ i → ∀ y ∈ x :: r, j < y.f0 := by
        intro j hj y hy
        cases hy with
        | head => omega
        | tail _ hy => have := Chain.ahead c3 y hy; omega
      rw [cnt_all _ _ a (fun j h1 h2 => unt_late j _ (hl j (by omega))), sumAt_late i _ (hl i (Int.le_refl _))]
      omega
    · obtain ⟨i1, i2, i3⟩ := ih x.f1 _ v c3 h
      refine ⟨by omega, i2, ?_⟩
      rw [show (i - a).toNat = (x.f0 - a).toNat + ((x.f1 - x.f0).toNat + (i - x.f1).toNat) by omega, cnt_add, cnt_add]
      rw [show a + ((x.f0 - a).toNat : Int) = x.f0 by omega, show x.f0 + ((x.f1 - x.f0).toNat : Int) = x.f1 by omega]
      rw [cnt_all _ _ a (fun j h1 h2 => unt_late j _ (fun y hy => by
        cases hy with
        | head => omega
        | tail _ hy => have := Chain.ahead c3 y hy; omega))]
      rw [cnt_none _ _ x.f0 (fun j h1 h2 => by simp only [unt]; rw [decide_eq_true (by omega)]; rfl)]
      rw [cnt_congr (x :: r) r _ x.f1 (fun j h1 h2 => by simp only [unt]; rw [decide_eq_false (by omega)]; rfl)]
      simp only [sumAt]
      rw [if_pos (by omega)]
      omega
theorem RMap_l1 (i : Int) (l : List S47) (hl : l.length ≤ 100) : ∀ (r pre : List S47) (tt : Int), l = pre ++ r → 0 ≤ tt → tt + sumSize r ≤ 1000000 →
    Ev (fun k => orielref02_Map.l1 k i l tt (pre.length : Int)) (tt + sumAt i r, true) := by
  intro r
  induction r with
  | nil =>
    intro pre tt he h0 h1
    refine Ev.step (f := fun _ => some (tt, true)) (fun k => ?_) (Ev.val (by simp [sumAt]))
    simp only [orielref02_Map.l1]
    rw [if_neg (by rw [he]; simp)]
  | cons x r ih =>
    intro pre tt he h0 h1
    simp only [sumSize] at h1
    have h5 := sumSize_nonneg r
    have hlen : l.length = pre.length + 1 + r.length := by rw [he]; simp only [List.length_append, List.length_cons]; omega
    have e2 : rd_T47 l (pre.length : Int) = x := by rw [he]; exact rd_mid pre x r
    have hi := ih (pre ++ [x]) (tt + (if x.f0 ≤ i then (x.f2.size : Int) else 0)) (by rw [he]; simp) (by split <;> omega) (by split <;> omega)
    rw [show (((pre ++ [x]).length : Nat) : Int) = (pre.length : Int) + 1 by simp] at hi
    rw [show tt + sumAt i (x :: r) = tt + (if x.f0 ≤ i then (x.f2.size : Int) else 0) + sumAt i r by simp only [sumAt]; omega]
    refine Ev.step (fun k => ?_) hi
    simp only [orielref02_Map.l1]
    rw [if_pos (by omega), if_pos (by omega), e2, wrap_id (x := (pre.length : Int) + 1) (by omega) (by omega)]
    by_cases c : x.f0 ≤ i
    · rw [if_pos c, if_pos c, wrap_id (by omega) (by omega)]
    · rw [if_neg c, if_neg c]
      simp
theorem RMap_l0 (n : Int) (l : List S47) (hl : l.length ≤ 100) (q : Int × Bool) (i : Int) (hi : i ≤ 4000) : ∀ (d : Nat) (j tt : Int), j + d = i → 0 ≤ j → 0 ≤ tt → tt ≤ j → Ev (fun k => orielref02_Map.l1 k i l (tt + cnt l j d) 0) q → Ev (fun k => orielref02_Map.l0 k i l tt j) q := by
  intro d
  induction d with
  | zero =>
    intro j tt hj h0 h1 h2 h
    simp only [cnt, Int.add_zero] at h
    refine Ev.step (fun k => ?_) h
    simp only [orielref02_Map.l0]
    rw [if_neg (by omega)]
  | succ d ih =>
    intro j tt hj h0 h1 h2 h
    obtain ⟨v, hv, hv2⟩ := taken_ev j l (by omega)
    refine Ev.step (fun k => by
      simp only [orielref02_Map.l0]
      rw [if_pos (by omega), wrap_id (x := tt + 1) (by omega) (by omega), wrap_id (x := j + 1) (by omega) (by omega)]) ?_
    refine Ev.bind hv ?_
    simp only [cnt] at h
    by_cases c : v < 0
    · refine Ev.ite_pos c (ih (j + 1) (tt + 1) (by omega) (by omega) (by omega) (by omega) ?_)
      rw [if_pos (hv2.mp c), show tt + (1 + cnt l (j + 1) d) = tt + 1 + cnt l (j + 1) d by omega] at h
      exact h
    · refine Ev.ite_neg c (ih (j + 1) tt (by omega) (by omega) (by omega) (by omega) ?_)
      rw [if_neg (fun h => c (hv2.mpr h)), show tt + (0 + cnt l (j + 1) d) = tt + cnt l (j + 1) d by omega] at h
      exact h
theorem RMap_ev (n i : Int) (hn : n ≤ 4000) (l : List S47) (hl : l.length ≤ 100) (hz : sumSize l ≤ 6000) :
    Ev (fun k => orielref02_Map.f k n i l) (if checkSpec n l = 0 then asMap (mapS n l 0 0 i) else (0, false)) := by
  have hno : Ev (fun k => orielref02_Map.j0 k i l true) (0, false) := by
    refine Ev.step (f := fun _ => some (0, false)) (fun k => ?_) (Ev.now _)
    simp only [orielref02_Map.j0]
    rw [if_true]
  unfold orielref02_Map.f
  refine Ev.bind (RCheck_ev n l (by omega)) ?_
  by_cases c : checkSpec n l = 0
  · refine Ev.ite_pos c ?_
    rw [if_pos c]
    have hc := chain_zero c
    have hout : ∀ (r : List S47) (a m : Int), Chain n a r → (i < a ∨ n ≤ i) → mapS n r a m i = none := by
      intro r
      induction r with
      | nil => intro a m _ h; simp only [mapS]; rw [if_neg (by omega)]
      | cons y r ih =>
        intro a m hc h
        obtain ⟨d0, d1, d2, d3⟩ := hc
        have := d3.le
        simp only [mapS]
        rw [if_neg (by omega)]
        exact ih y.f1 _ d3 (by omega)
    by_cases h0 : i < 0
    · refine Ev.ite_pos h0 ?_
      rw [hout l 0 0 hc (Or.inl h0)]
      exact hno
    · refine Ev.ite_neg h0 ?_
      by_cases h1 : i ≥ n
      · refine Ev.ite_pos h1 ?_
        rw [hout l 0 0 hc (Or.inr h1)]
        exact hno
      · refine Ev.ite_neg h1 ?_
        obtain ⟨v, hv, hv2⟩ := taken_ev i l (by omega)
        refine Ev.bind hv ?_
        by_cases d : v < 0
        · rw [decide_eq_false (by omega)]
          have hu := hv2.mp d
          have hs := mapS_unt n i l 0 0 hc (by omega) (by omega)
          cases hm : mapS n l 0 0 i with
          | none =>
            have := hs.mp hm
            rw [hu] at this
            cases this
          | some w =>
            obtain ⟨_, _, h5⟩ := mapS_cnt n i l 0 0 w hc hm
            have h6 := cnt_range l (i - 0).toNat 0
            have h7 := RMap_l1 i l hl l [] (0 + cnt l 0 (i - 0).toNat) rfl (by omega) (by omega)
            rw [show 0 + cnt l 0 (i - 0).toNat + sumAt i l = w by omega] at h7
            refine Ev.step (fun k => ?_) (RMap_l0 n l hl (w, true) i (by omega) (i - 0).toNat 0 0 (by omega) (by omega) (by omega) (by omega) h7)
            simp only [orielref02_Map.j0]
            rw [if_neg (by simp)]
        · rw [decide_eq_true (by omega)]
          have hu : unt l i = false := by
            cases hh : unt l i with
            | false => rfl
            | true => exact absurd (hv2.mpr hh) d
          rw [(mapS_unt n i l 0 0 hc (by omega) (by omega)).mpr hu]
          exact hno
  · refine Ev.ite_neg c ?_
    rw [if_neg c]
    exact hno
end Go.Proofs.Ytmgeheomokjimaa.EditE
