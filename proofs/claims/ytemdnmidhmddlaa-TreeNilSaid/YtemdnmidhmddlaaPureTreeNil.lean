/- YOURS: ∀ (a0 : Int), (inK .i64) a0 → oriellaw06_TreeNil.f a0 = some true -/
import Derived.Test.YtemdnmidhmddlaaInTreeNil
namespace Go.Proofs.Ytemdnmidhmddlaa.Pure
set_option linter.unusedVariables false
set_option linter.unusedSimpArgs false
open Go.RowKit Go.Proofs.YtemdnmidhmddlaaW.PrintWords Go.Proofs.YtemdnmidhmddlaaW.PrintLast Go.Proofs.YtemdnmidhmddlaaW.PrintMore Go.Proofs.Ytemdnmidhmddlaa.PAll Go.Proofs.Ytemdnmidhmddlaa.Frame

theorem TreeNil : oriellaw06_TreeNil.Pure := by
  intro a0 _; rfl

end Go.Proofs.Ytemdnmidhmddlaa.Pure
