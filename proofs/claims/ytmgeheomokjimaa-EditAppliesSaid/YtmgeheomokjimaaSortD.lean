/- The document's order of edits, walked: it is the program's. A plain law. -/
import Derived.Test.YtmgeheomokjimaaSortC
import Derived.Test.YtmgeheomokjimaaPSox21
namespace Go.Proofs.Ytmgeheomokjimaa.SortD
open Go Go.RowKit Go.Proofs.YtmgeheomokjimaaW.PrintWords Go.Proofs.YtmgeheomokjimaaW.PrintLast Go.Proofs.YtmgeheomokjimaaW.PrintMore Go.Proofs.Ytmgeheomokjimaa.PSo Go.Proofs.Ytmgeheomokjimaa.SortA Go.Proofs.Ytmgeheomokjimaa.SortB
open Go.Proofs.Ytmgeheomokjimaa.SortC
set_option linter.unusedVariables false
set_option linter.unusedSimpArgs false
theorem lst_insert (h : Nat → T) {i k : Nat} (hk : k ≤ i) : (lst h i).take k ++ [(h i).1] ++ (lst h i).drop k = lst (rot h k i (i + 1)) (i + 1) := by
  apply List.ext_getElem?
  intro x
  have hlt : ((lst h i).take k).length = k := by rw [List.length_take, lst_len]; omega
  have e2 : ∀ x, x < i + 1 → (lst (rot h k i (i + 1)) (i + 1))[x]? = some (rot h k i (i + 1) x).1 := fun x hx => by
    unfold lst
    rw [List.getElem?_map, List.getElem?_range hx]
    rfl
  have e1 : ∀ x, x < i → (lst h i)[x]? = some (h x).1 := fun x hx => by
    unfold lst
    rw [List.getElem?_map, List.getElem?_range hx]
    rfl
  rw [List.append_assoc, List.getElem?_append]
  by_cases c : x < k
  · rw [if_pos (by omega), List.getElem?_take_of_lt c, e1 x (by omega), e2 x (by omega), rot_low h c]
  · rw [if_neg (by omega), hlt, List.getElem?_append]
    by_cases d : x = k
    · subst d
      rw [if_pos (by simp), Nat.sub_self, e2 x (by omega), rot_one h (Nat.le_refl _) (by omega)]
      simp only [List.getElem?_cons_zero]
      rw [show x + (i - x) = i by omega]
    · rw [if_neg (by simp; omega)]
      simp only [List.length_cons, List.length_nil]
      rw [List.getElem?_drop]
      by_cases e : x < i + 1
      · rw [e2 x e, rot_two h (by omega) e, e1 _ (by omega)]
        congr 3; omega
      · rw [List.getElem?_eq_none (by rw [lst_len]; omega), List.getElem?_eq_none (by rw [lst_len]; omega)]
theorem RS_l1 (l : List S47) (hl : l.length ≤ 100000) (i : Nat) (hi : i < l.length) (h : Nat → T) (hp : PO 0 i (num l) h) (hs : SS 0 i h) : ∀ (k : Nat), k ≤ i → (∀ x, k ≤ x → x < i → tlt (h i) (h x)) →
    ∃ h', PO 0 (i + 1) (num l) h' ∧ SS 0 (i + 1) h' ∧ ∀ q, Ev (fun K => orielref02_Sorted.l0 K l (lst h' (i + 1)) ((i : Int) + 1)) q → Ev (fun K => orielref02_Sorted.l1 K l (lst h i) (i : Int) (k : Int)) q := by
  have hhi : h i = num l i := hp.1 i (.inr (Nat.le_refl _))
  have hrd : rd_T47 l (i : Int) = (h i).1 := by
    rw [hhi]
    unfold rd_T47 num
    rw [show ((i : Int)).toNat = i by omega]
  have tag : ∀ x, x < i → (h x).2 < (h i).2 := fun x hx => by
    obtain ⟨j, _, j1, e⟩ := hp.2.1 x (Nat.zero_le _) hx
    rw [e, hhi]
    exact j1
  -- where the place is found
  have put : ∀ k, k ≤ i → (∀ x, k ≤ x → x < i → tlt (h i) (h x)) → (k = 0 ∨ ¬ klt (h i).1 (h (k - 1)).1) → PO 0 (i + 1) (num l) (rot h k i (i + 1)) ∧ SS 0 (i + 1) (rot h k i (i + 1)) := by
    intro k hk hgt hstop
    have low : ∀ x, x < k → tlt (h x) (h i) := fun x hx => by
      rcases hstop with e | e
      · omega
      · have t := not_klt_tlt e (tag (k - 1) (by omega))
        by_cases c : x = k - 1
        · rw [c]; exact t
        · exact tlt_trans (hs x (k - 1) (Nat.zero_le _) (by omega) (by omega)) t
    refine ⟨(hp.widen (Nat.le_refl _) (by omega)).trans ((PO_rot h hk (by omega)).widen (Nat.zero_le _) (Nat.le_refl _)), ?_⟩
    refine SS_rot h (Nat.zero_le _) hk (by omega) (Nat.le_refl _) hs (fun x y h1 h2 h3 => by omega) (fun x y h1 h2 h3 h4 => ?_) (fun y x h1 h2 h3 h4 => ?_) (fun x y h1 h2 h3 h4 => by omega)
    · obtain rfl : y = i := by omega
      exact low x h2
    · obtain rfl : y = i := by omega
      exact hgt x h3 h4
  intro k
  induction k with
  | zero =>
    intro hk hgt
    obtain ⟨p1, p2⟩ := put 0 hk hgt (.inl rfl)
    refine ⟨_, p1, p2, fun q hq => Ev.step (fun K => ?_) hq⟩
    rw [← lst_insert h hk]
    have hlen := lst_len h i
    simp only [orielref02_Sorted.l1]
    rw [if_neg (by omega)]
    simp only [Option.bind_some, List.nil_append, show (((0 : Nat) : Int)).toNat = 0 from rfl, List.take_zero, List.drop_zero, List.length_nil, List.length_cons, List.length_append, hlen, hrd]
    repeat rw [if_pos (by omega)]
    rw [wrap_id (by omega) (by omega)]
  | succ k ih =>
    intro hk hgt
    have hlen := lst_len h i
    by_cases ck : klt (h i).1 (h k).1
    · obtain ⟨h', p1, p2, p3⟩ := ih (by omega) (fun x h1 h2 => by
        by_cases c : x = k
        · rw [c]; exact klt_tlt ck
        · exact hgt x (by omega) h2)
      refine ⟨h', p1, p2, fun q hq => Ev.step (fun K => ?_) (p3 q hq)⟩
      simp only [orielref02_Sorted.l1]
      rw [if_pos (by omega), if_pos (by omega), if_pos (by omega), wrap_id (x := ((k + 1 : Nat) : Int) - 1) (by omega) (by omega), show ((k + 1 : Nat) : Int) - 1 = (k : Int) by omega, if_pos (by omega), if_pos (by omega), hrd, rd_lst h (by omega), ahead_eq, Option.bind_some, decide_eq_true ck, if_pos rfl]
    · obtain ⟨p1, p2⟩ := put (k + 1) hk hgt (.inr ck)
      refine ⟨_, p1, p2, fun q hq => Ev.step (fun K => ?_) hq⟩
      rw [← lst_insert h hk]
      simp only [orielref02_Sorted.l1]
      rw [if_pos (by omega), if_pos (by omega), if_pos (by omega), wrap_id (x := ((k + 1 : Nat) : Int) - 1) (by omega) (by omega), show ((k + 1 : Nat) : Int) - 1 = (k : Int) by omega, if_pos (by omega), if_pos (by omega), hrd, rd_lst h (by omega), ahead_eq, Option.bind_some, decide_eq_false ck, if_neg (by simp)]
      have ht : ((lst h i).take (k + 1)).length = k + 1 := by rw [List.length_take, hlen]; omega
      have hd : ((lst h i).drop (k + 1)).length = i - (k + 1) := by rw [List.length_drop, hlen]
      simp only [Option.bind_some, List.nil_append, show (((k + 1 : Nat) : Int)).toNat = k + 1 by omega, List.length_nil, List.length_cons, List.length_append, hlen, ht, hd, hrd]
      repeat rw [if_pos (by omega)]
      rw [wrap_id (by omega) (by omega)]
theorem RS_l0 (l : List S47) (hl : l.length ≤ 100000) : ∀ (d i : Nat) (h : Nat → T), i + d = l.length → PO 0 i (num l) h → SS 0 i h → ∃ h', Order l h' ∧ Ev (fun K => orielref02_Sorted.l0 K l (lst h i) (i : Int)) (lst h' l.length) := by
  intro d
  induction d with
  | zero =>
    intro i h hi hp hs
    obtain rfl : i = l.length := by omega
    refine ⟨h, ⟨hp, hs⟩, Ev.step (f := fun _ => some (lst h l.length)) (fun K => ?_) (Ev.now _)⟩
    simp only [orielref02_Sorted.l0]
    rw [if_neg (by omega)]
  | succ d ih =>
    intro i h hi hp hs
    obtain ⟨h', p1, p2, p3⟩ := RS_l1 l hl i (by omega) h hp hs i (Nat.le_refl _) (fun x h1 h2 => by omega)
    obtain ⟨h'', q1, q2⟩ := ih (i + 1) h' (by omega) p1 p2
    refine ⟨h'', q1, Ev.step (fun K => ?_) (p3 _ q2)⟩
    simp only [orielref02_Sorted.l0]
    rw [if_pos (by omega), lst_len]
theorem RSorted_ev (l : List S47) (hl : l.length ≤ 100000) : ∃ h, Order l h ∧ Ev (fun k => orielref02_Sorted.f k l) (lst h l.length) := by
  obtain ⟨h, h1, h2⟩ := RS_l0 l hl l.length 0 (num l) (by omega) (PO.refl _ _ _) (fun x y h1 h2 h3 => by omega)
  exact ⟨h, h1, h2⟩
/-- Both sorts tell one list. -/
theorem both_sorted (l : List S47) (hl : l.length ≤ 100000) : ∃ h, Order l h ∧ Ev (fun k => edit_Sorted.f k l) (lst h l.length) ∧ Ev (fun k => orielref02_Sorted.f k l) (lst h l.length) := by
  obtain ⟨h, h1, h2⟩ := Sorted_ev l hl
  obtain ⟨k, k1, k2⟩ := RSorted_ev l hl
  rw [lst_congr (fun i hi => Order.unique k1 h1 i hi)] at k2
  exact ⟨h, h1, h2, k2⟩
end Go.Proofs.Ytmgeheomokjimaa.SortD
