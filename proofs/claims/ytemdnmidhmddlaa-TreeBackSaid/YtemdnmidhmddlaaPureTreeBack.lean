/- YOURS: ∀ (a0 : S25) (a1 : S25), good25 a0 → good25 a1 → oriellaw06_TreeBack.f a0 a1 = some true -/
import Derived.Test.YtemdnmidhmddlaaInTreeBack
namespace Go.Proofs.Ytemdnmidhmddlaa.Pure
set_option linter.unusedVariables false
set_option linter.unusedSimpArgs false
open Go.RowKit Go.Proofs.YtemdnmidhmddlaaW.PrintWords Go.Proofs.YtemdnmidhmddlaaW.PrintLast Go.Proofs.YtemdnmidhmddlaaW.PrintMore Go.Proofs.Ytemdnmidhmddlaa.PAll Go.Proofs.Ytemdnmidhmddlaa.Frame

theorem TreeBack : oriellaw06_TreeBack.Pure := by
  intro a0 a1 _ _; rfl

end Go.Proofs.Ytemdnmidhmddlaa.Pure
