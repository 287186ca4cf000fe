/- EditKeeps: which bytes edits leave, and where these are then, is as the document says. The pure statement. Conditions: none beyond what the arguments read as. -/
import Derived.Test.YtmgeheomokjimaaInEditKeeps
import Derived.Test.YtmgeheomokjimaaEditF
namespace Go.Proofs.Ytmgeheomokjimaa.Pure
set_option linter.unusedVariables false
set_option linter.unusedSimpArgs false
open Go.RowKit Go.Proofs.YtmgeheomokjimaaW.PrintWords Go.Proofs.YtmgeheomokjimaaW.PrintLast Go.Proofs.YtmgeheomokjimaaW.PrintMore Go.Proofs.Ytmgeheomokjimaa.PAll Go.Proofs.Ytmgeheomokjimaa.Frame

open Go.Proofs.Ytmgeheomokjimaa.EditA Go.Proofs.Ytmgeheomokjimaa.EditB Go.Proofs.Ytmgeheomokjimaa.EditC Go.Proofs.Ytmgeheomokjimaa.EditE Go.Proofs.Ytmgeheomokjimaa.EditF
theorem alive_ev : Ev (fun k => oriellaw02_alive.f k) true := Ev.of (fun k => oriellaw02_alive.mono k) (k := 30) (by kernel_rfl)
theorem No_ev (e : Int) : Ev (fun _ => oriellaw01_No.f e) e := Ev.now e
theorem alive_tail : Ev (fun k => (oriellaw02_alive.f k).bind fun t => some t) true := Ev.bind (f := fun _ t => some t) alive_ev (Ev.now _)
theorem j0_true (n : Int) (l : List S47) (at_ : Int) : Ev (fun k => oriellaw02_EditKeeps.j0 k n l at_ true) true := by
  refine Ev.step (fun k => ?_) alive_tail
  simp only [oriellaw02_EditKeeps.j0]
  rw [if_true]
theorem j0_few (n : Int) (l : List S47) (at_ : Int) (hs : n ≤ 200) (hl : l.length ≤ 60) (hz : sumSize l ≤ 2000) : Ev (fun k => oriellaw02_EditKeeps.j0 k n l at_ false) true := by
  have h1 := Kept_ev n (by omega) l (by omega) (by omega)
  have h2 := RKept_ev n (by omega) l (by omega) (by omega)
  have h3 := Map_ev n at_ (by omega) l (by omega) (by omega)
  have h4 := RMap_ev n at_ (by omega) l (by omega) (by omega)
  refine Ev.step (fun k => by simp only [oriellaw02_EditKeeps.j0]; rw [if_neg (by simp)]) ?_
  refine Ev.bind h1 (Ev.bind h2 (Ev.bind h3 (Ev.bind h4 ?_)))
  have hkl := kP_len n l 0
  have hkt := kPT_len n l 0 0
  refine Ev.bind (Pairs_ev _ (by split <;> simp <;> omega)) ?_
  refine Ev.ite_pos rfl ?_
  refine Ev.bind (Ints_ev _ (by split <;> simp <;> omega)) ?_
  refine Ev.ite_pos rfl ?_
  refine Ev.bind (No_ev _) ?_
  refine Ev.ite_pos rfl ?_
  refine Ev.ite_pos rfl ?_
  refine Ev.ite_pos (by simp) ?_
  exact alive_tail
theorem EditKeeps : oriellaw02_EditKeeps.Pure := by
  intro n l at_ hs hl ha
  have hl' : l.length ≤ 9223372036854775807 := hl.1
  refine Ev.rounds ?_
  unfold oriellaw02_EditKeeps.f
  by_cases h : n > 200
  · exact Ev.ite_pos h (j0_true n l at_)
  · refine Ev.ite_neg h ?_
    obtain ⟨b, hb, hb2⟩ := few_ev l hl'
    refine Ev.bind hb ?_
    cases b with
    | false => exact j0_true n l at_
    | true => exact j0_few n l at_ (by omega) (hb2 rfl).1 (hb2 rfl).2

end Go.Proofs.Ytmgeheomokjimaa.Pure
