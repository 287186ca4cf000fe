/- PackLists: bytes that are a list's are just those that it has. The pure statement. Conditions: none beyond what the argument reads as. -/
import Derived.Test.YtjekpecobkaaoaaDoorInPackLists
import Derived.Test.YtjekpecobkaaoaaDoorPackD
namespace Go.Proofs.YtjekpecobkaaoaaDoor.Pure
set_option linter.unusedVariables false
set_option linter.unusedSimpArgs false
open Go Go.RowKit Go.Proofs.YtjekpecobkaaoaaDoorW.PrintWords Go.Proofs.YtjekpecobkaaoaaDoorW.PrintLast Go.Proofs.YtjekpecobkaaoaaDoorW.PrintMore Go.Proofs.YtjekpecobkaaoaaDoor.PAll Go.Proofs.YtjekpecobkaaoaaDoor.Frame Go.Proofs.YtjekpecobkaaoaaDoor.PackA Go.Proofs.YtjekpecobkaaoaaDoor.PackB Go.Proofs.YtjekpecobkaaoaaDoor.PackC Go.Proofs.YtjekpecobkaaoaaDoor.PackD

theorem No_ev (e : Int) : Ev (fun _ => oriellaw01_No.f e) e := Ev.now e
theorem PackLists : oriellaw03_PackLists.Pure := by
  intro b hb0
  have hb : ∀ x ∈ b, 0 ≤ x ∧ x < 256 := fun x hx => by
    have h : (decide (IntKind.u8.min ≤ x) && decide (x ≤ IntKind.u8.max)) = true := hb0.2 x hx
    simp [IntKind.min, IntKind.max, IntKind.signed, IntKind.bits] at h
    omega
  refine Ev.rounds ?_
  unfold oriellaw03_PackLists.f
  by_cases c : (b.length : Int) > 500
  · exact Ev.ite_pos c alive_tail
  · refine Ev.ite_neg c ?_
    obtain ⟨x, hx, hx2⟩ := Ints_sound b (by omega) hb
    refine Ev.bind hx ?_
    rcases hx2 with rfl | ⟨l, h1, h2, rfl, h4⟩
    · refine Ev.bind (No_ev 9) ?_
      refine Ev.ite_neg (by decide) ?_
      refine Ev.bind (No_ev 9) ?_
      refine Ev.ite_pos rfl ?_
      exact Ev.ite_pos (by simp) alive_tail
    · refine Ev.bind (No_ev 0) ?_
      refine Ev.ite_pos rfl ?_
      have hB := Bytes_list l (by omega) h4
      rw [← h2] at hB
      refine Ev.bind hB ?_
      simp only [Equal_self, Option.bind_some]
      exact Ev.ite_pos (by simp) alive_tail

end Go.Proofs.YtjekpecobkaaoaaDoor.Pure
