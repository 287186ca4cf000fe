/- YOURS: ∀ (a0 : S25) (a1 : Int), good25 a0 → (inK .i64) a1 → oriellaw06_TreeMakes.f a0 a1 = some true -/
import Derived.Test.YtemdnmidhmddlaaInTreeMakes
namespace Go.Proofs.Ytemdnmidhmddlaa.Pure
set_option linter.unusedVariables false
set_option linter.unusedSimpArgs false
open Go.RowKit Go.Proofs.YtemdnmidhmddlaaW.PrintWords Go.Proofs.YtemdnmidhmddlaaW.PrintLast Go.Proofs.YtemdnmidhmddlaaW.PrintMore Go.Proofs.Ytemdnmidhmddlaa.PAll Go.Proofs.Ytemdnmidhmddlaa.Frame

theorem TreeMakes : oriellaw06_TreeMakes.Pure := by
  intro a0 a1 _ _; rfl

end Go.Proofs.Ytemdnmidhmddlaa.Pure
