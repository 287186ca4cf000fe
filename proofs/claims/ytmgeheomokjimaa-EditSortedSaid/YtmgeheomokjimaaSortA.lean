/- The library's stable sort, as the program calls it, read as a plain function of rows of numbered edits: insertion, rotation, merging. Plain theorems; no condition but those of each theorem. -/
import Derived.Test.YtmgeheomokjimaaPSox15
import Derived.Test.YtmgeheomokjimaaPSox17
import Derived.Test.YtmgeheomokjimaaPSox16
namespace Go.Proofs.Ytmgeheomokjimaa.SortA
open Go Go.RowKit Go.Proofs.YtmgeheomokjimaaW.PrintWords Go.Proofs.YtmgeheomokjimaaW.PrintLast Go.Proofs.YtmgeheomokjimaaW.PrintMore Go.Proofs.Ytmgeheomokjimaa.PSo
set_option linter.unusedVariables false
set_option linter.unusedSimpArgs false
abbrev T := S47 × Nat
def klt (x y : S47) : Prop := x.f0 < y.f0 ∨ (x.f0 = y.f0 ∧ x.f1 < y.f1)
instance (x y : S47) : Decidable (klt x y) := by unfold klt; infer_instance
def tlt (a b : T) : Prop := klt a.1 b.1 ∨ (¬ klt b.1 a.1 ∧ a.2 < b.2)
theorem tlt_trans {a b c : T} (h : tlt a b) (k : tlt b c) : tlt a c := by
  unfold tlt klt at *
  omega
theorem tlt_asymm {a b : T} (h : tlt a b) : ¬ tlt b a := by
  unfold tlt klt at *
  omega
theorem klt_tlt {a b : T} (h : klt a.1 b.1) : tlt a b := .inl h
theorem not_klt_tlt {a b : T} (h : ¬ klt a.1 b.1) (ht : b.2 < a.2) : tlt b a := by
  by_cases c : klt b.1 a.1
  · exact .inl c
  · exact .inr ⟨h, ht⟩
theorem wrap_id {x : Int} (h0 : -9223372036854775808 ≤ x) (h1 : x ≤ 9223372036854775807) : wrap64 x = x := by
  unfold wrap64
  omega
theorem uwrap_id {x : Int} (h0 : 0 ≤ x) (h1 : x < 18446744073709551616) : IntKind.u64.wrap x = x := by
  rw [IntKind.wrap_u64]
  omega
theorem ev_pos {α : Type} {c : Prop} [Decidable c] {f g : Nat → Option α} {r : α} (h : c) (k : Ev f r) : Ev (fun n => if c then f n else g n) r := by
  simp only [if_pos h]; exact k
theorem ev_neg {α : Type} {c : Prop} [Decidable c] {f g : Nat → Option α} {r : α} (h : ¬ c) (k : Ev g r) : Ev (fun n => if c then f n else g n) r := by
  simp only [if_neg h]; exact k
theorem evs {α : Type} {x : Option α} {r : α} (h : x = some r) : Ev (fun _ : Nat => x) r := by
  rw [h]
  exact Ev.now r
theorem cmp_lt (x y : S47) : ∃ c, edit_Sorted_1.f x.f0 x.f1 x.f2 y.f0 y.f1 y.f2 = some c ∧ (c < 0 ↔ klt x y) := by
  unfold edit_Sorted_1.f edit_cmp.f klt
  by_cases e : x.f0 = y.f0
  · rw [if_pos e]
    by_cases c : x.f1 < y.f1
    · rw [if_pos c]
      exact ⟨-1, rfl, by omega⟩
    · rw [if_neg c]
      by_cases d : x.f1 > y.f1
      · rw [if_pos d]
        exact ⟨1, rfl, by omega⟩
      · rw [if_neg d]
        exact ⟨0, rfl, by omega⟩
  · rw [if_neg e]
    by_cases c : x.f0 < y.f0
    · rw [if_pos c]
      exact ⟨-1, rfl, by omega⟩
    · rw [if_neg c]
      by_cases d : x.f0 > y.f0
      · rw [if_pos d]
        exact ⟨1, rfl, by omega⟩
      · rw [if_neg d]
        exact ⟨0, rfl, by omega⟩
/-! ### rows as functions of places -/
def lst (g : Nat → T) (n : Nat) : List S47 := (List.range n).map (fun i => (g i).1)
theorem lst_len (g : Nat → T) (n : Nat) : (lst g n).length = n := by unfold lst; simp
theorem rd_lst (g : Nat → T) {n i : Nat} (h : i < n) : rd_T47 (lst g n) (i : Int) = (g i).1 := by
  unfold rd_T47 lst
  rw [show ((i : Int)).toNat = i by omega, List.getD_eq_getElem?_getD, List.getElem?_map, List.getElem?_range h]
  rfl
def sw (g : Nat → T) (p q : Nat) : Nat → T := fun j => if j = q then g p else if j = p then g q else g j
theorem lst_sw (g : Nat → T) {n p q : Nat} (hp : p < n) (hq : q < n) : ((lst g n).set p (g q).1).set q (g p).1 = lst (sw g p q) n := by
  apply List.ext_getElem?
  intro i
  by_cases hi : i < n
  · rw [List.getElem?_set]
    have e2 : (lst (sw g p q) n)[i]? = some (sw g p q i).1 := by
      unfold lst
      rw [List.getElem?_map, List.getElem?_range hi]
      rfl
    rw [e2]
    unfold sw
    by_cases c : q = i
    · subst c
      rw [if_pos rfl, if_pos (by rw [List.length_set, lst_len]; exact hi), if_pos rfl]
    · rw [if_neg c, if_neg (fun e => c e.symm), List.getElem?_set]
      by_cases d : p = i
      · subst d
        rw [if_pos rfl, if_pos (by rw [lst_len]; exact hi), if_pos rfl]
      · rw [if_neg d, if_neg (fun e => d e.symm)]
        unfold lst
        rw [List.getElem?_map, List.getElem?_range hi]
        rfl
  · rw [List.getElem?_eq_none (by rw [List.length_set, List.length_set, lst_len]; omega), List.getElem?_eq_none (by rw [lst_len]; omega)]
/-- What one row has from a to b, the other one has there, too; elsewhere both are the same. -/
def PO (a b : Nat) (g h : Nat → T) : Prop := (∀ i, (i < a ∨ b ≤ i) → h i = g i) ∧ (∀ i, a ≤ i → i < b → ∃ j, a ≤ j ∧ j < b ∧ h i = g j) ∧ (∀ j, a ≤ j → j < b → ∃ i, a ≤ i ∧ i < b ∧ h i = g j)
theorem PO.refl (a b : Nat) (g : Nat → T) : PO a b g g := ⟨fun _ _ => rfl, fun i h1 h2 => ⟨i, h1, h2, rfl⟩, fun i h1 h2 => ⟨i, h1, h2, rfl⟩⟩
theorem PO.trans {a b : Nat} {g h k : Nat → T} (p : PO a b g h) (q : PO a b h k) : PO a b g k := by
  refine ⟨fun i hi => (q.1 i hi).trans (p.1 i hi), fun i h1 h2 => ?_, fun j h1 h2 => ?_⟩
  · obtain ⟨j, h3, h4, e⟩ := q.2.1 i h1 h2
    obtain ⟨l, h5, h6, e2⟩ := p.2.1 j h3 h4
    exact ⟨l, h5, h6, e.trans e2⟩
  · obtain ⟨l, h3, h4, e⟩ := p.2.2 j h1 h2
    obtain ⟨i, h5, h6, e2⟩ := q.2.2 l h3 h4
    exact ⟨i, h5, h6, e2.trans e⟩
theorem PO.widen {a b c d : Nat} {g h : Nat → T} (p : PO c d g h) (h1 : a ≤ c) (h2 : d ≤ b) : PO a b g h := by
  refine ⟨fun i hi => p.1 i (by omega), fun i h3 h4 => ?_, fun j h3 h4 => ?_⟩
  · by_cases x : c ≤ i ∧ i < d
    · obtain ⟨j, h5, h6, e⟩ := p.2.1 i x.1 x.2
      exact ⟨j, by omega, by omega, e⟩
    · exact ⟨i, h3, h4, p.1 i (by omega)⟩
  · by_cases x : c ≤ j ∧ j < d
    · obtain ⟨i, h5, h6, e⟩ := p.2.2 j x.1 x.2
      exact ⟨i, by omega, by omega, e⟩
    · exact ⟨j, h3, h4, p.1 j (by omega)⟩
theorem PO_sw (g : Nat → T) {a b p q : Nat} (h1 : a ≤ p) (h2 : p < b) (h3 : a ≤ q) (h4 : q < b) : PO a b g (sw g p q) := by
  refine ⟨fun i hi => ?_, fun i h5 h6 => ?_, fun j h5 h6 => ?_⟩
  · unfold sw
    rw [if_neg (by omega), if_neg (by omega)]
  · unfold sw
    by_cases c : i = q
    · exact ⟨p, h1, h2, by rw [if_pos c]⟩
    · by_cases d : i = p
      · exact ⟨q, h3, h4, by rw [if_neg c, if_pos d]⟩
      · exact ⟨i, h5, h6, by rw [if_neg c, if_neg d]⟩
  · by_cases c : j = q
    · by_cases d : p = q
      · exact ⟨q, h3, h4, by unfold sw; rw [if_pos rfl, c, d]⟩
      · exact ⟨p, h1, h2, by unfold sw; rw [if_neg d, if_pos rfl, c]⟩
    · by_cases d : j = p
      · exact ⟨q, h3, h4, by unfold sw; rw [if_pos rfl, d]⟩
      · exact ⟨j, h5, h6, by unfold sw; rw [if_neg c, if_neg d]⟩
def SS (a b : Nat) (g : Nat → T) : Prop := ∀ i j, a ≤ i → i < j → j < b → tlt (g i) (g j)
def asc (a b : Nat) (g : Nat → T) : Prop := ∀ i j, a ≤ i → i < j → j < b → (g i).2 < (g j).2
/-! ### insertion -/
def Ins (a i j : Nat) (h : Nat → T) : Prop := (∀ p q, a ≤ p → p < q → q ≤ i → p ≠ j → q ≠ j → tlt (h p) (h q)) ∧ (∀ q, j < q → q ≤ i → tlt (h j) (h q)) ∧ (∀ p, a ≤ p → p ≤ i → p ≠ j → (h p).2 < (h j).2)
theorem ins_step {a i j : Nat} {h : Nat → T} (H : Ins a i j h) (hj : a < j) (hji : j ≤ i) (hk : klt (h j).1 (h (j - 1)).1) : Ins a i (j - 1) (sw h j (j - 1)) := by
  have s1 : sw h j (j - 1) (j - 1) = h j := by unfold sw; rw [if_pos rfl]
  have s2 : sw h j (j - 1) j = h (j - 1) := by unfold sw; rw [if_neg (by omega), if_pos rfl]
  have s3 : ∀ x, x ≠ j → x ≠ j - 1 → sw h j (j - 1) x = h x := fun x h1 h2 => by unfold sw; rw [if_neg h2, if_neg h1]
  refine ⟨fun p q h1 h2 h3 h4 h5 => ?_, fun q h1 h2 => ?_, fun p h1 h2 h3 => ?_⟩
  · by_cases c : p = j
    · subst c
      rw [s2, s3 q (by omega) h5]
      exact H.1 _ _ (by omega) (by omega) h3 (by omega) (by omega)
    · by_cases d : q = j
      · subst d
        rw [s2, s3 p c h4]
        exact H.1 _ _ h1 (by omega) (by omega) c (by omega)
      · rw [s3 p c h4, s3 q d h5]
        exact H.1 _ _ h1 h2 h3 c d
  · rw [s1]
    by_cases c : q = j
    · subst c
      rw [s2]
      exact klt_tlt hk
    · rw [s3 q c (by omega)]
      exact H.2.1 q (by omega) h2
  · rw [s1]
    by_cases c : p = j
    · subst c
      rw [s2]
      exact H.2.2 _ (by omega) (by omega) (by omega)
    · rw [s3 p c h3]
      exact H.2.2 p h1 h2 c
theorem ins_done {a i j : Nat} {h : Nat → T} (H : Ins a i j h) (haj : a ≤ j) (hji : j ≤ i) (hs : j = a ∨ ¬ klt (h j).1 (h (j - 1)).1) : SS a (i + 1) h := by
  have low : ∀ p, a ≤ p → p < j → tlt (h p) (h j) := fun p h1 h2 => by
    rcases hs with e | e
    · omega
    · have t := not_klt_tlt e (H.2.2 (j - 1) (by omega) (by omega) (by omega))
      by_cases c : p = j - 1
      · rw [c]; exact t
      · exact tlt_trans (H.1 p (j - 1) h1 (by omega) (by omega) (by omega) (by omega)) t
  intro p q h1 h2 h3
  by_cases c : p = j
  · subst c
    exact H.2.1 q h2 (by omega)
  · by_cases d : q = j
    · subst d
      exact low p h1 h2
    · exact H.1 p q h1 h2 (by omega) c d
theorem ins_l1 {n a b i : Nat} (hn : n ≤ 1000000) (hb : b ≤ n) (hi : i < b) (hai : a < i) : ∀ (d j : Nat) (h : Nat → T), j = a + d → j ≤ i → Ins a i j h →
    ∃ h', PO a (i + 1) h h' ∧ SS a (i + 1) h' ∧ ∀ q, Ev (fun k => api_Edit_43.l0 k (lst h' n) (a : Int) (b : Int) ((i : Int) + 1)) q → Ev (fun k => api_Edit_43.l1 k (lst h n) (a : Int) (b : Int) (i : Int) (j : Int)) q := by
  intro d
  induction d with
  | zero =>
    intro j h hj hji H
    refine ⟨h, PO.refl _ _ _, ins_done H (by omega) hji (.inl (by omega)), fun q hq => Ev.step (fun k => ?_) hq⟩
    simp only [api_Edit_43.l1]
    rw [if_neg (by omega), wrap_id (by omega) (by omega)]
  | succ d ih =>
    intro j h hj hji H
    obtain ⟨c, hc, hk⟩ := cmp_lt (h j).1 (h (j - 1)).1
    have e1 : (j : Int) - 1 = ((j - 1 : Nat) : Int) := by omega
    by_cases ck : klt (h j).1 (h (j - 1)).1
    · obtain ⟨h', p1, p2, p3⟩ := ih (j - 1) (sw h j (j - 1)) (by omega) (by omega) (ins_step H (by omega) hji ck)
      refine ⟨h', (PO_sw h (by omega) (by omega) (by omega) (by omega)).trans p1, p2, fun q hq => Ev.step (fun k => ?_) (p3 q hq)⟩
      simp only [api_Edit_43.l1]
      rw [if_pos (by omega), if_pos (by omega), if_pos (by rw [lst_len]; omega), wrap_id (x := (j : Int) - 1) (by omega) (by omega), e1, if_pos (by omega), if_pos (by rw [lst_len]; omega), rd_lst h (by omega), rd_lst h (by omega), hc, Option.bind_some, if_pos (hk.mpr ck)]
      show api_Edit_43.l1 k (((lst h n).set ((j : Int)).toNat (h (j - 1)).1).set (((j - 1 : Nat) : Int)).toNat (h j).1) _ _ _ _ = _
      rw [show ((j : Int)).toNat = j by omega, show (((j - 1 : Nat) : Int)).toNat = j - 1 by omega, lst_sw h (by omega) (by omega)]
    · refine ⟨h, PO.refl _ _ _, ins_done H (by omega) hji (.inr ck), fun q hq => Ev.step (fun k => ?_) hq⟩
      simp only [api_Edit_43.l1]
      rw [if_pos (by omega), if_pos (by omega), if_pos (by rw [lst_len]; omega), wrap_id (x := (j : Int) - 1) (by omega) (by omega), e1, if_pos (by omega), if_pos (by rw [lst_len]; omega), rd_lst h (by omega), rd_lst h (by omega), hc, Option.bind_some, if_neg (fun hh => ck (hk.mp hh)), wrap_id (by omega) (by omega)]
theorem ins_l0 {n a b : Nat} (hn : n ≤ 1000000) (hb : b ≤ n) {g : Nat → T} (ht : asc a b g) : ∀ (d i : Nat) (h : Nat → T), i + d = b → a < i → PO a i g h → SS a i h →
    ∃ h', Ev (fun k => api_Edit_43.l0 k (lst h n) (a : Int) (b : Int) (i : Int)) (lst h' n) ∧ PO a b g h' ∧ SS a b h' := by
  intro d
  induction d with
  | zero =>
    intro i h hi hai hp hs
    obtain rfl : i = b := by omega
    refine ⟨h, Ev.step (f := fun _ => some (lst h n)) (fun k => ?_) (Ev.now _), hp, hs⟩
    simp only [api_Edit_43.l0]
    rw [if_neg (by omega)]
  | succ d ih =>
    intro i h hi hai hp hs
    have H : Ins a i i h := by
      refine ⟨fun p q h1 h2 h3 h4 h5 => hs p q h1 h2 (by omega), fun q h1 h2 => by omega, fun p h1 h2 h3 => ?_⟩
      obtain ⟨p', h4, h5, e⟩ := hp.2.1 p h1 (by omega)
      rw [e, hp.1 i (by omega)]
      exact ht p' i h4 h5 (by omega)
    obtain ⟨h', p1, p2, p3⟩ := ins_l1 hn hb (show i < b by omega) hai (i - a) i h (by omega) (Nat.le_refl _) H
    obtain ⟨h'', q1, q2, q3⟩ := ih (i + 1) h' (by omega) (by omega) ((hp.widen (Nat.le_refl _) (by omega)).trans p1) p2
    refine ⟨h'', Ev.step (fun k => ?_) (p3 _ q1), q2, q3⟩
    simp only [api_Edit_43.l0]
    rw [if_pos (by omega)]
theorem ins_spec {n a b : Nat} (hn : n ≤ 1000000) (hab : a ≤ b) (hb : b ≤ n) (g : Nat → T) (ht : asc a b g) : ∃ h, Ev (fun k => api_Edit_43.f k (lst g n) (a : Int) (b : Int)) (lst h n) ∧ PO a b g h ∧ SS a b h := by
  by_cases c : a < b
  · obtain ⟨h, h1, h2, h3⟩ := ins_l0 hn hb ht (b - (a + 1)) (a + 1) g (by omega) (by omega) (PO.refl _ _ _) (fun p q _ _ _ => by omega)
    refine ⟨h, ?_, h2, h3⟩
    unfold api_Edit_43.f
    rw [wrap_id (by omega) (by omega)]
    exact h1
  · refine ⟨g, ?_, PO.refl _ _ _, fun p q _ _ _ => by omega⟩
    unfold api_Edit_43.f
    rw [wrap_id (by omega) (by omega)]
    refine Ev.step (f := fun _ => some (lst g n)) (fun k => ?_) (Ev.now _)
    simp only [api_Edit_43.l0]
    rw [if_neg (by omega)]
/-! ### rotation -/
def swr (g : Nat → T) (a b i : Nat) : Nat → T := fun x => if a ≤ x ∧ x < a + i then g (x - a + b) else if b ≤ x ∧ x < b + i then g (x - b + a) else g x
theorem swr_zero (g : Nat → T) (a b : Nat) : swr g a b 0 = g := by
  funext x
  unfold swr
  rw [if_neg (by omega), if_neg (by omega)]
theorem swr_succ (g : Nat → T) (a b i : Nat) (h : a + i < b) : sw (swr g a b i) (a + i) (b + i) = swr g a b (i + 1) := by
  funext x
  unfold sw swr
  by_cases c1 : x = b + i
  · rw [if_pos c1, if_neg (by omega), if_neg (by omega), if_neg (by omega), if_pos (by omega)]
    congr 1; omega
  · rw [if_neg c1]
    by_cases c2 : x = a + i
    · rw [if_pos c2, if_neg (by omega), if_neg (by omega), if_pos (by omega)]
      congr 1; omega
    · rw [if_neg c2]
      by_cases c3 : a ≤ x ∧ x < a + i
      · rw [if_pos c3, if_pos (by omega)]
      · rw [if_neg c3]
        by_cases c4 : b ≤ x ∧ x < b + i
        · rw [if_pos c4, if_neg (by omega), if_pos (by omega)]
        · rw [if_neg c4, if_neg (by omega), if_neg (by omega)]
theorem swr_l0 {n a b c : Nat} (hn : n ≤ 1000000) (h1 : a + c ≤ b) (h2 : b + c ≤ n) (g : Nat → T) : ∀ (d i : Nat), i + d = c → Ev (fun k => api_Edit_46.l0 k (lst (swr g a b i) n) (a : Int) (b : Int) (c : Int) (i : Int)) (lst (swr g a b c) n) := by
  intro d
  induction d with
  | zero =>
    intro i hi
    obtain rfl : i = c := by omega
    refine Ev.step (f := fun _ => some (lst (swr g a b i) n)) (fun k => ?_) (Ev.now _)
    simp only [api_Edit_46.l0]
    rw [if_neg (by omega)]
  | succ d ih =>
    intro i hi
    have h := ih (i + 1) (by omega)
    rw [← swr_succ g a b i (by omega)] at h
    refine Ev.step (fun k => ?_) h
    simp only [api_Edit_46.l0]
    rw [if_pos (by omega), wrap_id (x := (b : Int) + i) (by omega) (by omega), wrap_id (x := (a : Int) + i) (by omega) (by omega), if_pos (by omega), if_pos (by rw [lst_len]; omega), if_pos (by omega), if_pos (by rw [lst_len]; omega), show (b : Int) + i = ((b + i : Nat) : Int) by omega, show (a : Int) + i = ((a + i : Nat) : Int) by omega, rd_lst _ (by omega), rd_lst _ (by omega), wrap_id (by omega) (by omega)]
    show api_Edit_46.l0 k (((lst (swr g a b i) n).set (((a + i : Nat) : Int)).toNat (swr g a b i (b + i)).1).set (((b + i : Nat) : Int)).toNat (swr g a b i (a + i)).1) _ _ _ _ = _
    rw [show (((a + i : Nat) : Int)).toNat = a + i by omega, show (((b + i : Nat) : Int)).toNat = b + i by omega, lst_sw _ (by omega) (by omega), show (i : Int) + 1 = ((i + 1 : Nat) : Int) by omega]
theorem swr_spec {n a b c : Nat} (hn : n ≤ 1000000) (h1 : a + c ≤ b) (h2 : b + c ≤ n) (g : Nat → T) : Ev (fun k => api_Edit_46.f k (lst g n) (a : Int) (b : Int) (c : Int)) (lst (swr g a b c) n) := by
  have h := swr_l0 hn h1 h2 g c 0 (by omega)
  rw [swr_zero] at h
  exact h
def rot (g : Nat → T) (a m b : Nat) : Nat → T := fun x => if a ≤ x ∧ x < a + (b - m) then g (x + (m - a)) else if a + (b - m) ≤ x ∧ x < b then g (x - (b - m)) else g x
theorem rot_eq (g : Nat → T) (m i : Nat) (hi : i ≤ m) : swr g (m - i) m i = rot g (m - i) m (m + i) := by
  funext x
  unfold swr rot
  by_cases c : m - i ≤ x ∧ x < m - i + i
  · rw [if_pos c, if_pos (by omega)]
    congr 1; omega
  · by_cases d : m ≤ x ∧ x < m + i
    · rw [if_neg c, if_pos d, if_neg (by omega), if_pos (by omega)]
      congr 1; omega
    · rw [if_neg c, if_neg d, if_neg (by omega), if_neg (by omega)]
theorem rot_gt (g : Nat → T) (m i j : Nat) (hi : i ≤ m) (hj : j < i) : rot (swr g (m - i) m j) (m - (i - j)) m (m + j) = rot g (m - i) m (m + j) := by
  funext x
  unfold rot
  by_cases c : m - (i - j) ≤ x ∧ x < m - (i - j) + (m + j - m)
  · rw [if_pos c]
    unfold swr
    rw [if_neg (by omega), if_pos (by omega), if_neg (by omega), if_pos (by omega)]
    congr 1; omega
  · rw [if_neg c]
    by_cases d : m - (i - j) + (m + j - m) ≤ x ∧ x < m + j
    · rw [if_pos d]
      unfold swr
      rw [if_neg (by omega), if_neg (by omega), if_neg (by omega), if_pos (by omega)]
    · rw [if_neg d]
      unfold swr
      by_cases e : m - i ≤ x ∧ x < m - i + j
      · rw [if_pos e, if_pos (by omega)]
        congr 1; omega
      · rw [if_neg e, if_neg (by omega), if_neg (by omega), if_neg (by omega)]
theorem rot_lt (g : Nat → T) (m i j : Nat) (hi : i ≤ m) (hj : i < j) : rot (swr g (m - i) (m + j - i) i) (m - i) m (m + (j - i)) = rot g (m - i) m (m + j) := by
  funext x
  unfold rot
  by_cases c : m - i ≤ x ∧ x < m - i + (m + (j - i) - m)
  · rw [if_pos c, if_pos (by omega)]
    unfold swr
    rw [if_neg (by omega), if_neg (by omega)]
  · rw [if_neg c]
    by_cases d : m - i + (m + (j - i) - m) ≤ x ∧ x < m + (j - i)
    · rw [if_pos d]
      unfold swr
      rw [if_pos (by omega), if_pos (by omega)]
      congr 1; omega
    · rw [if_neg d]
      unfold swr
      by_cases e : m + j - i ≤ x ∧ x < m + j - i + i
      · rw [if_neg (by omega), if_pos e, if_neg (by omega), if_pos (by omega)]
        congr 1; omega
      · rw [if_neg (by omega), if_neg e, if_neg (by omega), if_neg (by omega)]
theorem rot_l0 {n m : Nat} (hn : n ≤ 1000000) : ∀ (s i j : Nat) (g : Nat → T), i + j ≤ s → 1 ≤ i → 1 ≤ j → i ≤ m → m + j ≤ n → Ev (fun k => api_Edit_45.l0 k (lst g n) (m : Int) (i : Int) (j : Int)) (lst (rot g (m - i) m (m + j)) n) := by
  intro s
  induction s with
  | zero => intro i j g h1 h2 h3 h4 h5; omega
  | succ s ih =>
    intro i j g h1 h2 h3 h4 h5
    by_cases c : i = j
    · subst c
      rw [← rot_eq g m i h4]
      have hs := swr_spec (a := m - i) (b := m) (c := i) hn (by omega) h5 g
      refine Ev.step (fun k => by simp only [api_Edit_45.l0]; rw [if_pos trivial, wrap_id (x := (m : Int) - i) (by omega) (by omega), show (m : Int) - i = ((m - i : Nat) : Int) by omega]) ?_
      exact Ev.bind (f := fun _ t => some t) hs (Ev.now _)
    · by_cases d : j < i
      · rw [← rot_gt g m i j h4 d]
        have hs := swr_spec (a := m - i) (b := m) (c := j) hn (by omega) h5 g
        refine Ev.step (fun k => by simp only [api_Edit_45.l0]; rw [if_neg (by omega), if_pos (by omega), wrap_id (x := (m : Int) - i) (by omega) (by omega), show (m : Int) - i = ((m - i : Nat) : Int) by omega, wrap_id (x := (i : Int) - j) (by omega) (by omega), show (i : Int) - j = ((i - j : Nat) : Int) by omega]) ?_
        exact Ev.bind hs (ih (i - j) j _ (by omega) (by omega) h3 (by omega) h5)
      · rw [← rot_lt g m i j h4 (by omega)]
        have hs := swr_spec (a := m - i) (b := m + j - i) (c := i) hn (by omega) (by omega) g
        refine Ev.step (fun k => by simp only [api_Edit_45.l0]; rw [if_neg (by omega), if_neg (by omega), wrap_id (x := (m : Int) - i) (by omega) (by omega), show (m : Int) - i = ((m - i : Nat) : Int) by omega, wrap_id (x := (m : Int) + j) (by omega) (by omega), wrap_id (x := (m : Int) + j - i) (by omega) (by omega), show (m : Int) + j - i = ((m + j - i : Nat) : Int) by omega, wrap_id (x := (j : Int) - i) (by omega) (by omega), show (j : Int) - i = ((j - i : Nat) : Int) by omega]) ?_
        exact Ev.bind hs (ih i (j - i) _ (by omega) h2 (by omega) h4 (by omega))
theorem rot_spec {n a m b : Nat} (hn : n ≤ 1000000) (h1 : a < m) (h2 : m < b) (h3 : b ≤ n) (g : Nat → T) : Ev (fun k => api_Edit_45.f k (lst g n) (a : Int) (m : Int) (b : Int)) (lst (rot g a m b) n) := by
  unfold api_Edit_45.f
  rw [wrap_id (x := (m : Int) - a) (by omega) (by omega), wrap_id (x := (b : Int) - m) (by omega) (by omega), show (m : Int) - a = ((m - a : Nat) : Int) by omega, show (b : Int) - m = ((b - m : Nat) : Int) by omega]
  have h := rot_l0 (n := n) (m := m) hn (m - a + (b - m)) (m - a) (b - m) g (Nat.le_refl _) (by omega) (by omega) (by omega) (by omega)
  rw [show m - (m - a) = a by omega, show m + (b - m) = b by omega] at h
  exact h
theorem PO_rot (g : Nat → T) {a m b : Nat} (h1 : a ≤ m) (h2 : m ≤ b) : PO a b g (rot g a m b) := by
  refine ⟨fun i hi => ?_, fun i h3 h4 => ?_, fun j h3 h4 => ?_⟩
  · unfold rot
    rw [if_neg (by omega), if_neg (by omega)]
  · unfold rot
    by_cases c : a ≤ i ∧ i < a + (b - m)
    · exact ⟨i + (m - a), by omega, by omega, by rw [if_pos c]⟩
    · exact ⟨i - (b - m), by omega, by omega, by rw [if_neg c, if_pos (by omega)]⟩
  · unfold rot
    by_cases c : m ≤ j
    · refine ⟨j - (m - a), by omega, by omega, ?_⟩
      rw [if_pos (by omega)]
      congr 1; omega
    · refine ⟨j + (b - m), by omega, by omega, ?_⟩
      rw [if_neg (by omega), if_pos (by omega)]
      congr 1; omega
end Go.Proofs.Ytmgeheomokjimaa.SortA
