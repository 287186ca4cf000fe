/- What turns files into others makes them of the ones; files with other names, or of another number, are not turned: the plain law. Conditions: none beyond what the arguments read as. -/
import Derived.Test.YtnemooemifbbhaaDoorDmA
import Derived.Test.YtnemooemifbbhaaDoorInDiffFiles
namespace Go.Proofs.YtnemooemifbbhaaDoor.Pure
open Go.RowKit Go.Proofs.YtnemooemifbbhaaDoor.PDF Go.Proofs.YtnemooemifbbhaaDoorW.PrintWords Go.Proofs.YtnemooemifbbhaaDoorW.PrintLast Go.Proofs.YtnemooemifbbhaaDoor.Dm Go.Proofs.YtnemooemifbbhaaDoor.Dc
set_option linter.unusedVariables false
set_option linter.unusedSimpArgs false
theorem alive2 : Ev (fun k => (oriellaw27_alive.f k).bind fun t => some t) true := Ev.bind (f := fun k b => some b) alive_ev (Ev.now _)
theorem no_ev (a b : List S43) : Ev (fun k => oriellaw27_DiffFiles.j0 k a b true) true :=
  Ev.step (f := fun k => (oriellaw27_alive.f k).bind fun t216 => some t216) (fun k => by rw [oriellaw27_DiffFiles.j0, if_pos rfl]) alive2
theorem end_ev (a b : List S43) (ha : small a) (hb : small b) (T : Bool) (hT : T = (decide (a.length = b.length) && nm a b)) (n x : Int) (h : ¬ (x < n)) : Ev (fun k => oriellaw27_DiffFiles.l0 k a b T n x) true := by
  have hal := ha.1
  have hbl := hb.1
  refine Ev.step (fun k => by rw [oriellaw27_DiffFiles.l0, if_neg h]) ?_
  refine Ev.bind (f := fun k t => _) (Files_ev a b ha hb) ?_
  by_cases c : a.length = b.length ∧ nm a b = true
  · have hT1 : T = true := by rw [hT, decide_eq_true c.1, c.2]; rfl
    rw [if_pos c, hT1]
    refine Ev.ite_neg (show ¬ ((true != true) = true) by decide) (Ev.ite_pos rfl ?_)
    refine Ev.bind (f := fun k t => _) (TApply_ev a b c.1 c.2 ha hb) (Ev.ite_pos (show ((0 : Int) == 0 && ((0 : Int) == 0 && (0 : Int) == 0)) = true by decide) ?_)
    exact Ev.bind (f := fun k t => _) (TFiles_ev b (by omega)) (Ev.ite_pos rfl alive2)
  · have hT0 : T = false := by
      rw [hT]
      by_cases d : a.length = b.length
      · have : nm a b = false := by
          cases e : nm a b with
          | false => rfl
          | true => exact absurd ⟨d, e⟩ c
        rw [this, Bool.and_false]
      · rw [decide_eq_false d, Bool.false_and]
    rw [if_neg c, hT0]
    exact Ev.ite_neg (show ¬ ((false != false) = true) by decide) (Ev.ite_neg (show ¬ (false = true) by decide) (Ev.ite_pos rfl alive2))
theorem loop_ev (a b : List S43) (ha : small a) (T : Bool) (H : Ev (fun k => oriellaw27_DiffFiles.l0 k a b T (a.length : Int) (a.length : Int)) true) : ∀ (xs ys : List S43) (i : Nat) (bl : Bool), a.drop i = xs → b.drop i = ys → i ≤ a.length → (bl && nm xs ys) = T →
    Ev (fun k => oriellaw27_DiffFiles.l0 k a b bl (a.length : Int) (i : Int)) true := by
  have hal := ha.1
  intro xs
  induction xs with
  | nil =>
    intro ys i bl h1 h2 hi hT
    have e : i = a.length := by have := List.drop_eq_nil_iff.mp h1; omega
    have e2 : bl = T := by rw [← hT, nm, Bool.and_true]
    rw [e, e2]
    exact H
  | cons x xs ih =>
    intro ys i bl h1 h2 hi hT
    have hi2 : i < a.length := by
      have := congrArg List.length h1
      rw [List.length_drop, List.length_cons] at this
      omega
    have hx : a[i] = x := by
      have := List.drop_eq_getElem_cons hi2
      rw [h1] at this
      injection this with e _
      exact e.symm
    have h1' : a.drop (i + 1) = xs := by rw [← List.drop_drop, h1]; rfl
    have h2' : b.drop (i + 1) = ys.drop 1 := by rw [← List.drop_drop, h2]
    have q1 : (i : Int) < (a.length : Int) := by omega
    have q2 : (0 : Int) ≤ (i : Int) := Int.natCast_nonneg _
    cases bl with
    | false =>
      refine Ev.step (fun k => ?_) (ih (ys.drop 1) (i + 1) false h1' h2' hi2 (by rw [Bool.false_and] at hT ⊢; exact hT))
      rw [oriellaw27_DiffFiles.l0, if_pos q1, if_neg (by decide), wsucc i (by omega)]
    | true =>
      by_cases c : i < b.length
      · have hy : ∃ y ys', ys = y :: ys' ∧ b[i] = y := by
          have := List.drop_eq_getElem_cons c
          rw [h2] at this
          exact ⟨_, _, this, rfl⟩
        obtain ⟨y, ys', rfl, hy⟩ := hy
        have q3 : (i : Int) < (b.length : Int) := by omega
        have := ih ys' (i + 1) (x.f0.toList == y.f0.toList) h1' h2' hi2 (by rw [nm, Bool.true_and] at hT; exact hT)
        refine Ev.step (fun k => ?_) this
        rw [oriellaw27_DiffFiles.l0, if_pos q1, if_pos rfl, if_pos q3, if_pos q2, if_pos q1, rd43 a i hi2, rd43 b i c, hx, hy, wsucc i (by omega)]
      · have e : ys = [] := by rw [← h2]; exact List.drop_of_length_le (by omega)
        subst e
        have q3 : ¬ ((i : Int) < (b.length : Int)) := by omega
        refine Ev.step (fun k => ?_) (ih [] (i + 1) false h1' h2' hi2 (by rw [nm, Bool.and_false] at hT; rw [Bool.false_and]; exact hT))
        rw [oriellaw27_DiffFiles.l0, if_pos q1, if_pos rfl, if_neg q3, wsucc i (by omega)]
theorem yes_ev (a b : List S43) (ha : small a) (hb : small b) : Ev (fun k => oriellaw27_DiffFiles.j0 k a b false) true := by
  have H := end_ev a b ha hb (decide (a.length = b.length) && nm a b) rfl (a.length : Int) (a.length : Int) (Int.lt_irrefl _)
  refine Ev.step (fun k => ?_) (loop_ev a b ha _ H a b 0 ((a.length : Int) == (b.length : Int)) rfl rfl (Nat.zero_le _) ?_)
  · rw [oriellaw27_DiffFiles.j0, if_neg (by decide)]
    rfl
  · congr 1
    by_cases c : a.length = b.length
    · rw [decide_eq_true c, c]
      simp
    · rw [decide_eq_false c]
      exact beq_eq_false_iff_ne.mpr (by omega)
theorem DiffFiles : oriellaw27_DiffFiles.Pure := by
  intro a b ga gb
  have la : a.length ≤ 9223372036854775807 := ga.1
  have lb : b.length ≤ 9223372036854775807 := gb.1
  refine Ev.rounds ?_
  obtain ⟨u, hu1, hu2⟩ := few_ev a la
  obtain ⟨v, hv1, hv2⟩ := few_ev b lb
  unfold oriellaw27_DiffFiles.f
  refine Ev.bind (f := fun k t => _) hu1 ?_
  cases u with
  | false => exact Ev.ite_neg (by decide) (no_ev a b)
  | true =>
    refine Ev.ite_pos rfl ?_
    refine Ev.bind (f := fun k t => _) hv1 ?_
    cases v with
    | false => exact no_ev a b
    | true => exact yes_ev a b (hu2 rfl) (hv2 rfl)
end Go.Proofs.YtnemooemifbbhaaDoor.Pure
