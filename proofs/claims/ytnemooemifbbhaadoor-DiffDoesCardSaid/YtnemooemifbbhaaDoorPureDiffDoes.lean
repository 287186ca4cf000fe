/- The edits are right, and make of the one text the other one; of a text to itself there are none; the other way round they lead back: the plain law. Conditions: none beyond what the arguments read as. -/
import Derived.Test.YtnemooemifbbhaaDoorDmA
import Derived.Test.YtnemooemifbbhaaDoorInDiffDoes
namespace Go.Proofs.YtnemooemifbbhaaDoor.Pure
open Go.RowKit Go.Proofs.YtnemooemifbbhaaDoor.PDD Go.Proofs.YtnemooemifbbhaaDoorW.PrintWords Go.Proofs.YtnemooemifbbhaaDoorW.PrintLast Go.Proofs.YtnemooemifbbhaaDoor.Dm
set_option linter.unusedVariables false
set_option linter.unusedSimpArgs false
theorem no_ev (s t : ByteArray) : Ev (fun k => oriellaw27_DiffDoes.j0 k s t true) true := by
  refine Ev.step (f := fun k => (oriellaw27_alive.f k).bind fun t216 => some t216) (fun k => by rw [oriellaw27_DiffDoes.j0, if_pos rfl]) ?_
  exact Ev.bind (f := fun k b => some b) alive_ev (Ev.now _)
theorem both_iff (s t : ByteArray) (hs : s.size ≤ 900000) (ht : t.size ≤ 900000) : ((((edits s t).length : Int) == 0) == (s.toList == t.toList)) = true := by
  by_cases c : s = t
  · subst c
    rw [edits_self]
    simp
  · have h1 : edits s t ≠ [] := fun e => c (edits_nil s t hs ht e)
    have h2 : (((edits s t).length : Int) == 0) = false := by
      have := List.length_pos_iff.mpr h1
      exact beq_eq_false_iff_ne.mpr (by omega)
    have h3 : (s.toList == t.toList) = false := beq_eq_false_iff_ne.mpr (fun e => c (bs_ext (by rw [toList_eq, toList_eq] at e; exact e)))
    rw [h2, h3]
    rfl
theorem yes_ev (s t : ByteArray) (hs : s.size ≤ 1000) (ht : t.size ≤ 1000) : Ev (fun k => oriellaw27_DiffDoes.j0 k s t false) true := by
  have hs9 : s.size ≤ 900000 := by omega
  have ht9 : t.size ≤ 900000 := by omega
  refine Ev.step (fun k => by rw [oriellaw27_DiffDoes.j0, if_neg (show ¬ (false = true) by decide)]) ?_
  refine Ev.bind (f := fun k a => _) (Edits_ev s t hs9 ht9) (Ev.bind (f := fun k a => _) (Apply_edits s t hs9 ht9) (Ev.bind (f := fun k a => _) (Edits_ev t s ht9 hs9) (Ev.bind (f := fun k a => _) (Apply_edits t s ht9 hs9) ?_)))
  refine Ev.ite_pos (show wrap64 ((0 : Int) + 0) = 0 from wid (by decide) (by decide)) (Ev.ite_pos rfl (Ev.ite_pos rfl (Ev.bind (f := fun k a => _) (Edits_ev s s hs9 hs9) ?_)))
  refine Ev.ite_pos (by rw [edits_self]; rfl) (Ev.ite_pos (both_iff s t hs9 ht9) ?_)
  exact Ev.bind (f := fun k b => some b) alive_ev (Ev.now _)
theorem DiffDoes : oriellaw27_DiffDoes.Pure := by
  intro s t hs ht
  refine Ev.rounds ?_
  unfold oriellaw27_DiffDoes.f
  by_cases c : (s.size : Int) > 1000
  · refine Ev.ite_pos c ?_
    exact no_ev s t
  · refine Ev.ite_neg c ?_
    by_cases d : (t.size : Int) > 1000
    · rw [decide_eq_true d]
      exact no_ev s t
    · rw [decide_eq_false d]
      exact yes_ev s t (by omega) (by omega)
end Go.Proofs.YtnemooemifbbhaaDoor.Pure
