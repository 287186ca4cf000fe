/- The files behind each step, by the program and by the document, are the same, and the changes between the first and the last are merge.Net's: the plain law. Conditions: none beyond what the arguments read as. -/
import Derived.Test.YtclcnglamlegiaaMgA
import Derived.Test.YtclcnglamlegiaaInMergeReplays
namespace Go.Proofs.Ytclcnglamlegiaa.Pure
open Go.RowKit Go.Proofs.Ytclcnglamlegiaa.PMR Go.Proofs.YtclcnglamlegiaaW.PrintWords Go.Proofs.YtclcnglamlegiaaW.PrintLast Go.Proofs.Ytclcnglamlegiaa.Mg
set_option linter.unusedVariables false
set_option linter.unusedSimpArgs false
theorem alive2 : Ev (fun k => (oriellaw35_alive.f k).bind fun t => some t) true := Ev.bind (f := fun k b => some b) alive_ev (Ev.now _)
theorem no_ev (a : List S36) (s : List (List S34)) (L : List S34) : Ev (fun k => oriellaw35_MergeReplays.j0 k a s L true) true :=
  Ev.step (f := fun k => (oriellaw35_alive.f k).bind fun t => some t) (fun k => by rw [oriellaw35_MergeReplays.j0, if_pos rfl]) alive2
theorem j4_ev (a M : List S36) (ha : fits 1500 a) (hM : fits 10000 M) (hl : a.length = M.length) : Ev (fun k => oriellaw35_MergeReplays.j4 k a (netS 0 a M) M false) true := by
  have la := ha.1
  have hn := net_len' a M 0
  refine Ev.step (fun k => by rw [oriellaw35_MergeReplays.j4, if_neg (show ¬ (false = true) by decide)]) ?_
  refine Ev.bind (f := fun k t => _) (RNet_ev a M (by omega) (fun x hx => by have := ha.2 x hx; omega) (fun x hx => by have := hM.2 x hx; omega) hl) ?_
  exact Ev.bind (f := fun k t => _) (Changes_ev (netS 0 a M) (by omega)) (Ev.ite_pos rfl alive2)
theorem j3_ev (a M : List S36) (L : List S34) (ha : fits 1500 a) (hL : L.length ≤ 40) (hz : txt L ≤ 600) (hM : fits 10000 M) (hl : a.length = M.length) : Ev (fun k => oriellaw35_MergeReplays.j3 k a L (netS 0 a M) M) true := by
  have la := ha.1
  have h4 := j4_ev a M ha hM hl
  refine Ev.step (fun k => by rw [oriellaw35_MergeReplays.j3]) ?_
  refine Ev.bind (f := fun k t => _) (TApply_ev a L (by omega) 1500 ha (by omega) (by omega)) ?_
  refine Ev.bind (f := fun k t => _) (Tight_ev a L (by omega) 1500 ha (by omega)) ?_
  by_cases c : okT (fault a L)
  · rw [if_pos c, if_pos c]
    refine Ev.ite_neg (show ¬ ((!((0 : Int) == 0) || (!((0 : Int) == 0) || (!((0 : Int) == 0)))) = true) by decide) ?_
    refine Ev.ite_neg (show ¬ ((!((0 : Int) == 0) || (!((0 : Int) == 0) || (!((0 : Int) == 0)))) = true) by decide) ?_
    refine Ev.ite_pos (show (((0 : Int) == 0) && (((0 : Int) == 0) && ((0 : Int) == 0))) = true by decide) ?_
    have hf := edA_fits a L 1500 c ha
    have hn := net_len' a (edA L 0 a) 0
    refine Ev.bind (f := fun k t => _) (RNet_ev a (edA L 0 a) (by omega) (fun x hx => by have := ha.2 x hx; omega) (fun x hx => by have := hf.2 x hx; omega) (edA_len L _ _).symm) ?_
    exact Ev.bind (f := fun k t => _) (Changes_ev (netS 0 a (edA L 0 a)) (by omega)) h4
  · rw [if_neg c, if_neg c]
    have e : ((fault a L).1 == 0) = false := beq_eq_false_iff_ne.mpr (fault_ne a L c)
    have e1 : ∀ x : Int, (x == x) = true := fun x => beq_self_eq_true x
    have n1 : ¬ ((!((fault a L).1 == (fault a L).1) || (!((fault a L).2.1 == (fault a L).2.1) || (!((fault a L).2.2 == (fault a L).2.2)))) = true) := by rw [e1, e1, e1]; decide
    have n2 : (!((fault a L).1 == 0) || (!((fault a L).2.1 == 0) || (!((fault a L).2.2 == 0)))) = true := by rw [e]; rfl
    have n3 : ¬ ((((fault a L).1 == 0) && (((fault a L).2.1 == 0) && ((fault a L).2.2 == 0))) = true) := by rw [e]; simp
    refine Ev.ite_neg n1 (Ev.ite_pos n2 (Ev.ite_neg (show ¬ ((([] : List S34).length : Int) > 0) by decide) (Ev.ite_neg n3 h4)))
theorem l0_ev (a : List S36) (L y : List S34) (X : List (List S36)) (hX : X.length ≤ 1000000) (hf : ∀ f ∈ X, f.length ≤ 4) (e1 e2 e3 : Int) (H : Ev (fun k => oriellaw35_MergeReplays.l0 k a L X X y (X.length : Int) (X.length : Int) e1 e2 e3) true) : ∀ (d i : Nat), i + d = X.length → Ev (fun k => oriellaw35_MergeReplays.l0 k a L X X y (X.length : Int) (i : Int) e1 e2 e3) true := by
  intro d
  induction d with
  | zero =>
    intro i h
    rw [Nat.add_zero] at h
    subst h
    exact H
  | succ d ih =>
    intro i h
    have q1 : (i : Int) < (X.length : Int) := by omega
    have q2 : (0 : Int) ≤ (i : Int) := Int.natCast_nonneg _
    have hm : (rd_L7 X (i : Int)).length ≤ 4 := by
      unfold rd_L7
      rw [Int.toNat_natCast, List.getD_eq_getElem?_getD, List.getElem?_eq_getElem (by omega)]
      exact hf _ (List.getElem_mem _)
    refine Ev.step (fun k => by rw [oriellaw35_MergeReplays.l0, if_pos q1, if_pos q2, if_pos q1, if_pos q1]) ?_
    refine Ev.bind (f := fun k t => _) (TFiles_ev (rd_L7 X (i : Int)) (by omega)) (Ev.ite_pos rfl ?_)
    rw [wsucc i (by omega)]
    exact ih (i + 1) (by omega)
theorem yes_ev (a : List S36) (s : List (List S34)) (L : List S34) (ha : fits 1500 a) (hs : sfits s) (hL : L.length ≤ 40) (hz : txt L ≤ 600) : Ev (fun k => oriellaw35_MergeReplays.j0 k a s L false) true := by
  have ls := hs.1
  have ts := hs.2.2
  have la := ha.1
  have ms : ∀ M ∈ s, M.length ≤ 1000 := fun M hM => by have := hs.2.1 M hM; omega
  have ms2 : ∀ M ∈ s, M.length ≤ 1000000 := fun M hM => by have := hs.2.1 M hM; omega
  have R1 := Replay_ev a s (by omega) ms2 1500 ha (by omega)
  have R2 := RReplay_ev a s (by omega) ms 1500 ha (by omega) (by omega)
  have N1 := Net_ev a s (by omega) ms2 1500 ha (by omega)
  have e1 : ∀ x : Int, (x == x) = true := fun x => beq_self_eq_true x
  have nn : ∀ x y z : Int, ¬ ((!(x == x) || (!(y == y) || (!(z == z)))) = true) := fun x y z => by rw [e1, e1, e1]; decide
  refine Ev.step (fun k => by rw [oriellaw35_MergeReplays.j0, if_neg (show ¬ (false = true) by decide)]) ?_
  refine Ev.bind (f := fun k t => _) R1 ?_
  refine Ev.bind (f := fun k t => _) R2 ?_
  refine Ev.bind (f := fun k t => _) N1 ?_
  unfold repS
  by_cases c : okT (eachS a s 0).2.2
  · rw [if_pos c, if_pos c]
    obtain ⟨h1, h2, h3⟩ := eachS_ok s a 0 1500 ha c
    have h2' : fits 10000 (eachS a s 0).1 := h2.mono (by omega)
    refine Ev.ite_pos rfl (Ev.ite_neg (nn _ _ _) (Ev.ite_pos rfl (Ev.ite_neg (nn _ _ _) ?_)))
    refine Ev.step (fun k => by rw [oriellaw35_MergeReplays.j1, if_neg (show ¬ ((((statesS a s).length : Int) != ((statesS a s).length : Int)) = true) by simp)]) ?_
    have hX := statesS_len s a
    refine l0_ev a L _ (statesS a s) (by omega) (states_fits s a 0 la) 0 0 0 ?_ (statesS a s).length 0 (by omega)
    have q1 : ¬ (((statesS a s).length : Int) < ((statesS a s).length : Int)) := Int.lt_irrefl _
    refine Ev.step (fun k => by rw [oriellaw35_MergeReplays.l0, if_neg q1]) ?_
    refine Ev.ite_neg (show ¬ ((!((0 : Int) == 0) || (!((0 : Int) == 0) || (!((0 : Int) == 0)))) = true) by decide) ?_
    by_cases e : s = []
    · subst e
      exact Ev.ite_neg (show ¬ ((((([] : List (List S36)).length) : Int)) > 0) by decide) (j3_ev a a L ha hL hz (ha.mono (by omega)) rfl)
    · have hl : s.length ≠ 0 := fun h => e (List.length_eq_zero_iff.mp h)
      have w : wrap64 (((statesS a s).length : Int) - 1) = ((s.length - 1 : Nat) : Int) := by rw [hX, wid (by omega) (by omega)]; omega
      rw [w, states_last s a e c, hX]
      exact Ev.ite_pos (by omega) (Ev.ite_pos (by omega) (Ev.ite_pos (by omega) (j3_ev a _ L ha hL hz h2' h1.symm)))
  · rw [if_neg c, if_neg c]
    refine Ev.ite_pos rfl (Ev.ite_neg (nn _ _ _) (Ev.ite_pos rfl (Ev.ite_neg (nn _ _ _) ?_)))
    refine Ev.step (fun k => by rw [oriellaw35_MergeReplays.j1, if_neg (show ¬ (((([] : List (List S36)).length : Int) != (([] : List (List S36)).length : Int)) = true) by decide)]) ?_
    have q1 : ¬ (((0 : Int)) < ((([] : List (List S36)).length : Int))) := by decide
    refine Ev.step (fun k => by rw [oriellaw35_MergeReplays.l0, if_neg q1]) ?_
    have e : ((eachS a s 0).2.2.1 == 0) = false := beq_eq_false_iff_ne.mpr (eachS_bad s a 0 c).2
    exact Ev.ite_pos (by rw [e]; rfl) (Ev.ite_pos rfl alive2)
theorem MergeReplays : oriellaw35_MergeReplays.Pure := by
  intro a s L ga gs gL
  have la : a.length ≤ 9223372036854775807 := ga.1
  have ls : s.length ≤ 9223372036854775807 := gs.1
  have lL : L.length ≤ 9223372036854775807 := gL.1
  refine Ev.rounds ?_
  obtain ⟨u, hu1, hu2⟩ := few_ev a la
  obtain ⟨v, hv1, hv2⟩ := sfew_ev s ls
  obtain ⟨w, hw1, hw2⟩ := tfew_ev L lL
  unfold oriellaw35_MergeReplays.f
  refine Ev.bind (f := fun k t => _) hu1 ?_
  cases u with
  | false => exact Ev.ite_neg (by decide) (no_ev a s L)
  | true =>
    refine Ev.ite_pos rfl ?_
    refine Ev.bind (f := fun k t => _) hv1 ?_
    cases v with
    | false => exact Ev.ite_neg (by decide) (no_ev a s L)
    | true =>
      refine Ev.ite_pos rfl ?_
      refine Ev.bind (f := fun k t => _) hw1 ?_
      cases w with
      | false => exact no_ev a s L
      | true => exact yes_ev a s L (hu2 rfl) (hv2 rfl) (hw2 rfl).1 (hw2 rfl).2
end Go.Proofs.Ytclcnglamlegiaa.Pure
