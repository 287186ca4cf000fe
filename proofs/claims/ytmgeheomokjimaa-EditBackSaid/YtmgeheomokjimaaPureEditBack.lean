/- EditBack: what right edits have made of a text is turned back to it by as many edits; wrong ones are refused alike. The pure statement. Conditions: none beyond what the arguments read as. -/
import Derived.Test.YtmgeheomokjimaaInEditBack
import Derived.Test.YtmgeheomokjimaaEditB
namespace Go.Proofs.Ytmgeheomokjimaa.Pure
set_option linter.unusedVariables false
set_option linter.unusedSimpArgs false
open Go.RowKit Go.Proofs.YtmgeheomokjimaaW.PrintWords Go.Proofs.YtmgeheomokjimaaW.PrintLast Go.Proofs.YtmgeheomokjimaaW.PrintMore Go.Proofs.Ytmgeheomokjimaa.PAll Go.Proofs.Ytmgeheomokjimaa.Frame

open Go.Proofs.Ytmgeheomokjimaa.EditA Go.Proofs.Ytmgeheomokjimaa.EditB
theorem alive_ev : Ev (fun k => oriellaw02_alive.f k) true := Ev.of (fun k => oriellaw02_alive.mono k) (k := 30) (by kernel_rfl)
theorem No_ev (e : Int) : Ev (fun _ => oriellaw01_No.f e) e := Ev.now e
theorem alive_tail : Ev (fun k => (oriellaw02_alive.f k).bind fun t => some t) true := Ev.bind (f := fun _ t => some t) alive_ev (Ev.now _)
theorem j0_true (s : ByteArray) (l : List S47) : Ev (fun k => oriellaw02_EditBack.j0 k s l true) true := by
  refine Ev.step (fun k => ?_) alive_tail
  simp only [oriellaw02_EditBack.j0]
  rw [if_true]
theorem j0_few (s : ByteArray) (l : List S47) (hs : s.size ≤ 2000) (hl : l.length ≤ 60) (hz : sumSize l ≤ 2000) : Ev (fun k => oriellaw02_EditBack.j0 k s l false) true := by
  have hA := Apply_ev s l (by omega) (by omega)
  have hB := Back_ev s (by omega) l (by omega) (by omega)
  refine Ev.step (fun k => by simp only [oriellaw02_EditBack.j0]; rw [if_neg (by simp)]) ?_
  refine Ev.bind hA ?_
  refine Ev.bind hB ?_
  by_cases c : checkSpec s.size l = 0
  · simp only [if_pos c]
    have hc := chain_zero c
    have hal := app_len (bs s) l 0 (by rw [bs_len]; exact hc)
    rw [bs_len] at hal
    refine Ev.bind (No_ev 0) ?_
    refine Ev.bind (No_ev 0) ?_
    refine Ev.ite_pos rfl ?_
    refine Ev.bind (No_ev 0) ?_
    refine Ev.ite_pos rfl ?_
    have hsz : ((⟨(app (bs s) l 0).toArray⟩ : ByteArray).size : Int) = (app (bs s) l 0).length := by rw [← bs_len, bs_mk (app (bs s) l 0)]
    have hbs := back_size s l 0 0 hc
    have hA2 := Apply_ev ⟨(app (bs s) l 0).toArray⟩ (back s l 0) (by rw [back_len]; omega) (by omega)
    have hck : checkSpec ((⟨(app (bs s) l 0).toArray⟩ : ByteArray).size : Int) (back s l 0) = 0 := by
      unfold checkSpec
      rw [hsz, if_pos ⟨back_ok s l 0 0 [] (app (bs s) l 0) hc rfl rfl, by omega⟩, if_pos (back_apart s l 0 (check_zero c).2.2)]
    rw [if_pos hck, bs_mk (app (bs s) l 0)] at hA2
    have hab := app_back s l 0 0 [] (app (bs s) l 0) hc rfl rfl
    rw [show (0 : Int) + 0 = 0 from rfl] at hab
    rw [hab] at hA2
    refine Ev.bind hA2 ?_
    refine Ev.bind (No_ev 0) ?_
    refine Ev.ite_pos rfl ?_
    refine Ev.ite_pos (by rw [toList_eq, toList_eq]; exact bs_mk (bs s)) ?_
    refine Ev.ite_pos (by rw [back_len]) ?_
    exact alive_tail
  · simp only [if_neg c]
    refine Ev.bind (No_ev _) ?_
    refine Ev.bind (No_ev _) ?_
    refine Ev.ite_pos rfl ?_
    refine Ev.bind (No_ev _) ?_
    refine Ev.ite_neg c ?_
    refine Ev.ite_pos (by rw [toList_eq]; rfl) ?_
    refine Ev.ite_pos (by simp) ?_
    exact alive_tail
theorem EditBack : oriellaw02_EditBack.Pure := by
  intro s l hs hl
  have hl' : l.length ≤ 9223372036854775807 := hl.1
  refine Ev.rounds ?_
  unfold oriellaw02_EditBack.f
  by_cases h : (s.size : Int) > 2000
  · exact Ev.ite_pos h (j0_true s l)
  · refine Ev.ite_neg h ?_
    obtain ⟨b, hb, hb2⟩ := few_ev l hl'
    refine Ev.bind hb ?_
    cases b with
    | false => exact j0_true s l
    | true => exact j0_few s l (by omega) (hb2 rfl).1 (hb2 rfl).2

end Go.Proofs.Ytmgeheomokjimaa.Pure
