/- As many lines stay as may: the common row is as long as the greatest one, and each pair of it is of two lines that are the same, in order: the plain law. Conditions: none beyond what the arguments read as. -/
import Derived.Test.YtnemooemifbbhaaDoorDmA
import Derived.Test.YtnemooemifbbhaaDoorInDiffLeast
import Derived.Test.YtnemooemifbbhaaDoorTabC
namespace Go.Proofs.YtnemooemifbbhaaDoor.Pure
open Go.RowKit Go.Proofs.YtnemooemifbbhaaDoor.PDL Go.Proofs.YtnemooemifbbhaaDoorW.PrintWords Go.Proofs.YtnemooemifbbhaaDoorW.PrintLast Go.Proofs.YtnemooemifbbhaaDoor.Dm Go.Proofs.YtnemooemifbbhaaDoor.TabB Go.Proofs.YtnemooemifbbhaaDoor.TabD
set_option linter.unusedVariables false
set_option linter.unusedSimpArgs false
theorem l2_ev (a b : List ByteArray) (ha : a.length ≤ 1000000) (hb : b.length ≤ 1000000) : ∀ (d j : Nat), j + d = (Fill.pairs a b).length → Ev (fun k => oriellaw27_DiffLeast.l2 k a b (Fill.pairs a b) (Fill.pairs a b) ((Fill.pairs a b).length : Int) (j : Int)) true := by
  have hlen : (Fill.pairs a b).length = lcs a b := by
    unfold Fill.pairs
    rw [List.length_map, greedy_len a b _ 0 0 (by omega)]
    rfl
  have hle : (Fill.pairs a b).length ≤ a.length := by rw [hlen]; exact lcs_le _ _ _ (Nat.le_refl _)
  have hget : ∀ (j : Nat) (h : j < (Fill.pairs a b).length), ∃ p, (greedy a b (a.length + b.length) 0 0)[j]? = some p ∧ rd_T36 (Fill.pairs a b) (j : Int) = Fill.pr p := by
    intro j h
    have h2 : j < (greedy a b (a.length + b.length) 0 0).length := by unfold Fill.pairs at h; rwa [List.length_map] at h
    refine ⟨_, List.getElem?_eq_getElem h2, ?_⟩
    unfold rd_T36 Fill.pairs
    rw [List.getD_eq_getElem?_getD, Int.toNat_natCast, List.getElem?_map, List.getElem?_eq_getElem h2]
    rfl
  intro d
  induction d with
  | zero =>
    intro j h
    have q1 : ¬ ((j : Int) < ((Fill.pairs a b).length : Int)) := by omega
    refine Ev.step (fun k => by rw [oriellaw27_DiffLeast.l2, if_neg q1]) ?_
    refine Ev.bind (f := fun k t => _) (TabC.Rests_ev a b ha hb) ?_
    have e1 := Fill.len_part a b (-1) ((b.length : Int) - 1) 0 (Nat.zero_le _)
    have e2 := Fill.rd_part a b (-1) ((b.length : Int) - 1) 0 0 (Nat.zero_le _) (Nat.zero_le _)
    rw [if_pos (Or.inl (by decide))] at e2
    refine Ev.ite_pos (by rw [part_len]; omega) (Ev.ite_pos (by rw [show (0 : Int) = ((0 : Nat) : Int) from rfl, e1]; omega) (Ev.ite_pos ?_ ?_))
    · rw [hlen]
      exact e2.symm
    · exact Ev.bind (f := fun k b => some b) alive_ev (Ev.now _)
  | succ d ih =>
    intro j h
    have hj : j < (Fill.pairs a b).length := by omega
    have q1 : (j : Int) < ((Fill.pairs a b).length : Int) := by omega
    have q2 : (0 : Int) ≤ (j : Int) := Int.natCast_nonneg _
    obtain ⟨p, hp, hr⟩ := hget j hj
    obtain ⟨_, _, hin, heq⟩ := greedy_mem a b _ 0 0 p (List.mem_of_getElem? hp)
    have n1 : ¬ ((p.1 : Int) < 0) := by omega
    have n2 : ¬ ((p.2 : Int) < 0) := by omega
    have n3 : ¬ ((p.1 : Int) ≥ (a.length : Int)) := by omega
    have n4 : ¬ ((p.2 : Int) ≥ (b.length : Int)) := by omega
    have m1 : (0 : Int) ≤ (p.1 : Int) := Int.natCast_nonneg _
    have m2 : (0 : Int) ≤ (p.2 : Int) := Int.natCast_nonneg _
    have m3 : (p.1 : Int) < (a.length : Int) := by omega
    have m4 : (p.2 : Int) < (b.length : Int) := by omega
    have r1 := Fill.rdOf_get a p.1 hin.1
    have r2 := Fill.rdOf_get b p.2 hin.2
    have m5 : (rdOf ByteArray.empty a (p.1 : Int)).toList = (rdOf ByteArray.empty b (p.2 : Int)).toList := by rw [r1, r2, heq]
    have J4 : Ev (fun k => oriellaw27_DiffLeast.j4 k a b (Fill.pairs a b) (Fill.pairs a b) ((Fill.pairs a b).length : Int) (j : Int) false) true := by
      refine Ev.step (fun k => ?_) (ih (j + 1) (by omega))
      rw [oriellaw27_DiffLeast.j4, if_neg (by decide), wsucc j (by omega)]
    have F0 : (rd_T36 (Fill.pairs a b) (j : Int)).f0 = (p.1 : Int) := by rw [hr]; rfl
    have F1 : (rd_T36 (Fill.pairs a b) (j : Int)).f1 = (p.2 : Int) := by rw [hr]; rfl
    by_cases c : j = 0
    · have q3 : ¬ ((j : Int) > 0) := by omega
      refine Ev.step (fun k => ?_) J4
      rw [oriellaw27_DiffLeast.l2, if_pos q1, if_pos q2, if_pos q1, F0, F1, if_neg n1, if_neg n2, if_neg n3, if_neg n4, if_pos m1, if_pos m3, if_pos m2, if_pos m4, if_pos m5, if_neg q3]
    · have q3 : (j : Int) > 0 := by omega
      have w1 : wrap64 ((j : Int) - 1) = ((j - 1 : Nat) : Int) := by rw [wid (by omega) (by omega)]; omega
      obtain ⟨p', hp', hr'⟩ := hget (j - 1) (by omega)
      have ho : p'.1 < p.1 ∧ p'.2 < p.2 := by
        obtain ⟨g1, e1⟩ := List.getElem?_eq_some_iff.mp hp'
        obtain ⟨g2, e2⟩ := List.getElem?_eq_some_iff.mp hp
        have := (List.pairwise_iff_getElem.mp (greedy_order a b (a.length + b.length) 0 0)) (j - 1) j g1 g2 (by omega)
        rw [e1, e2] at this
        exact this
      have F0' : (rd_T36 (Fill.pairs a b) ((j - 1 : Nat) : Int)).f0 = (p'.1 : Int) := by rw [hr']; rfl
      have F1' : (rd_T36 (Fill.pairs a b) ((j - 1 : Nat) : Int)).f1 = (p'.2 : Int) := by rw [hr']; rfl
      have q4 : (0 : Int) ≤ ((j - 1 : Nat) : Int) := Int.natCast_nonneg _
      have q5 : ((j - 1 : Nat) : Int) < ((Fill.pairs a b).length : Int) := by omega
      have n5 : ¬ ((p.1 : Int) ≤ (p'.1 : Int)) := by omega
      have n6 : decide ((p.2 : Int) ≤ (p'.2 : Int)) = false := decide_eq_false (by omega)
      refine Ev.step (fun k => ?_) J4
      rw [oriellaw27_DiffLeast.l2, if_pos q1, if_pos q2, if_pos q1, F0, F1, if_neg n1, if_neg n2, if_neg n3, if_neg n4, if_pos m1, if_pos m3, if_pos m2, if_pos m4, if_pos m5, if_pos q3, w1, if_pos q4, if_pos q5, F0', if_neg n5, F1', n6]
theorem j2_true (a b : List ByteArray) : Ev (fun k => oriellaw27_DiffLeast.j2 k a b true) true := by
  refine Ev.step (f := fun k => (oriellaw27_alive.f k).bind fun t216 => some t216) (fun k => by rw [oriellaw27_DiffLeast.j2, if_pos rfl]) ?_
  exact Ev.bind (f := fun k b => some b) alive_ev (Ev.now _)
theorem j2_ev (a b : List ByteArray) (ha : a.length ≤ 40) (hb : b.length ≤ 40) (bl : Bool) : Ev (fun k => oriellaw27_DiffLeast.j2 k a b bl) true := by
  cases bl with
  | true => exact j2_true a b
  | false =>
    have hc : diff_Common.f a b = some (Fill.pairs a b) := by
      unfold diff_Common.f
      rw [if_pos ⟨by omega, by omega⟩]
    refine Ev.step (fun k => ?_) (l2_ev a b (by omega) (by omega) (Fill.pairs a b).length 0 (Nat.zero_add _))
    rw [oriellaw27_DiffLeast.j2, if_neg (by decide), hc, Option.bind_some]
    rfl
theorem end_ev (a b : List ByteArray) (L : List (List ByteArray)) (n x : Int) (h : ¬ (x < n)) (x5 : Int) : Ev (fun k => oriellaw27_DiffLeast.l0 k a b x5 L n x) true := by
  by_cases c : (a.length : Int) > 40
  · refine Ev.step (fun k => ?_) (j2_true a b)
    rw [oriellaw27_DiffLeast.l0, if_neg h, if_pos c]
  · by_cases d : (b.length : Int) > 40
    · refine Ev.step (fun k => ?_) (j2_true a b)
      rw [oriellaw27_DiffLeast.l0, if_neg h, if_neg c, if_pos d]
    · refine Ev.step (fun k => ?_) (j2_ev a b (by omega) (by omega) (decide (x5 > 1000)))
      rw [oriellaw27_DiffLeast.l0, if_neg h, if_neg c, if_neg d]
theorem l1_ev (a b : List ByteArray) (L : List (List ByteArray)) (n x : Int) (y : List ByteArray) (H : ∀ x5, Ev (fun k => oriellaw27_DiffLeast.l0 k a b x5 L n (wrap64 (x + 1))) true) : ∀ (d i : Nat), i + d = 41 → ∀ x5 : Int, Ev (fun k => oriellaw27_DiffLeast.l1 k a b x5 y (i : Int) L n x) true := by
  intro d
  induction d with
  | zero =>
    intro i h x5
    refine Ev.step (fun k => ?_) (H x5)
    rw [oriellaw27_DiffLeast.l1]
    by_cases c : (i : Int) < (y.length : Int)
    · have q : ¬ ((i : Int) ≤ 40) := by omega
      rw [if_pos c, if_neg q]
    · rw [if_neg c]
  | succ d ih =>
    intro i h x5
    by_cases c : (i : Int) < (y.length : Int)
    · have q : (i : Int) ≤ 40 := by omega
      have q2 : (0 : Int) ≤ (i : Int) := Int.natCast_nonneg _
      refine Ev.step (fun k => ?_) (ih (i + 1) (by omega) (wrap64 (x5 + (mn ((rdOf ByteArray.empty y (i : Int)).size : Int) 5000))))
      rw [oriellaw27_DiffLeast.l1, if_pos c, if_pos q, if_pos q2, wsucc i (by omega)]
    · refine Ev.step (fun k => ?_) (H x5)
      rw [oriellaw27_DiffLeast.l1, if_neg c]
theorem l0_ev (a b : List ByteArray) (L : List (List ByteArray)) (hL : L.length ≤ 1000000) : ∀ (d j : Nat), j + d = L.length → ∀ x5 : Int, Ev (fun k => oriellaw27_DiffLeast.l0 k a b x5 L (L.length : Int) (j : Int)) true := by
  intro d
  induction d with
  | zero =>
    intro j h x5
    exact end_ev a b L _ _ (by omega) x5
  | succ d ih =>
    intro j h x5
    have q1 : (j : Int) < (L.length : Int) := by omega
    have q2 : (0 : Int) ≤ (j : Int) := Int.natCast_nonneg _
    have H : ∀ x5, Ev (fun k => oriellaw27_DiffLeast.l0 k a b x5 L (L.length : Int) (wrap64 ((j : Int) + 1))) true := fun x5 => by
      rw [wsucc j (by omega)]
      exact ih (j + 1) (by omega) x5
    refine Ev.step (fun k => ?_) (l1_ev a b L (L.length : Int) (j : Int) (rd_L5 L (j : Int)) H 41 0 rfl x5)
    rw [oriellaw27_DiffLeast.l0, if_pos q1, if_pos q2, if_pos q1]
    rfl
theorem DiffLeast : oriellaw27_DiffLeast.Pure := by
  intro a b _ _
  refine Ev.rounds ?_
  unfold oriellaw27_DiffLeast.f
  exact l0_ev a b [a, b] (by show 2 ≤ 1000000; decide) 2 0 rfl 0
end Go.Proofs.YtnemooemifbbhaaDoor.Pure
