/- EditApplies: what is wrong with any edits, their order, and what they make of a text, is as the document says. The pure statement. Conditions: none beyond what the arguments read as. -/
import Derived.Test.YtmgeheomokjimaaInEditApplies
import Derived.Test.YtmgeheomokjimaaEditG
import Derived.Test.YtmgeheomokjimaaSortD
namespace Go.Proofs.Ytmgeheomokjimaa.Pure
set_option linter.unusedVariables false
set_option linter.unusedSimpArgs false
open Go Go.RowKit Go.Proofs.YtmgeheomokjimaaW.PrintWords Go.Proofs.YtmgeheomokjimaaW.PrintLast Go.Proofs.YtmgeheomokjimaaW.PrintMore Go.Proofs.Ytmgeheomokjimaa.PSo Go.Proofs.Ytmgeheomokjimaa.Frame

open Go.Proofs.Ytmgeheomokjimaa.EditA Go.Proofs.Ytmgeheomokjimaa.EditB Go.Proofs.Ytmgeheomokjimaa.EditG Go.Proofs.Ytmgeheomokjimaa.SortD
theorem ea_alive : Ev (fun k => oriellaw02_alive.f k) true := Ev.of (fun k => oriellaw02_alive.mono k) (k := 30) (by kernel_rfl)
theorem ea_No (e : Int) : Ev (fun _ => oriellaw01_No.f e) e := Ev.now e
theorem ea_tail : Ev (fun k => (oriellaw02_alive.f k).bind fun t => some t) true := Ev.bind (f := fun _ t => some t) ea_alive (Ev.now _)
theorem ea_j0_true (s : ByteArray) (l : List S47) (n : Int) : Ev (fun k => oriellaw02_EditApplies.j0 k s l n true) true := by
  refine Ev.step (fun k => ?_) ea_tail
  simp only [oriellaw02_EditApplies.j0]
  rw [if_true]
theorem ea_j0_few (s : ByteArray) (l : List S47) (n : Int) (hs : s.size ≤ 400) (hl : l.length ≤ 60) (hz : sumSize l ≤ 2000) : Ev (fun k => oriellaw02_EditApplies.j0 k s l n false) true := by
  have hA := Apply_ev s l (by omega) (by omega)
  have hR := RApply_ev s (by omega) l (by omega) (by omega)
  obtain ⟨h, _, hS, hT⟩ := SortD.both_sorted l (by omega)
  refine Ev.step (fun k => by simp only [oriellaw02_EditApplies.j0]; rw [if_neg (by simp)]) ?_
  refine Ev.bind hA ?_
  refine Ev.bind hR ?_
  refine Ev.ite_pos rfl ?_
  refine Ev.bind (ea_No _) ?_
  refine Ev.ite_pos rfl ?_
  refine Ev.bind (Check_ev n l (by omega)) ?_
  refine Ev.bind (ea_No _) ?_
  refine Ev.bind (RCheck_ev n l (by omega)) ?_
  refine Ev.ite_pos rfl ?_
  refine Ev.bind hS ?_
  refine Ev.bind hT ?_
  refine Ev.bind (Same_ev _ (by rw [SortA.lst_len]; omega)) ?_
  exact Ev.ite_pos rfl ea_tail
theorem EditApplies : oriellaw02_EditApplies.Pure := by
  intro s l n hs hl hn
  have hl' : l.length ≤ 9223372036854775807 := hl.1
  refine Ev.rounds ?_
  unfold oriellaw02_EditApplies.f
  by_cases h : (s.size : Int) > 400
  · exact Ev.ite_pos h (ea_j0_true s l n)
  · refine Ev.ite_neg h ?_
    obtain ⟨b, hb, hb2⟩ := few_ev l hl'
    refine Ev.bind hb ?_
    cases b with
    | false => exact ea_j0_true s l n
    | true => exact ea_j0_few s l n (by omega) (hb2 rfl).1 (hb2 rfl).2

end Go.Proofs.Ytmgeheomokjimaa.Pure
