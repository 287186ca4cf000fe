/- Branch of a node that is none. Conditions: as the theorems say. -/
import Derived.Test.YtemdnmidhmddlaaTrN
namespace Go.Proofs.Ytemdnmidhmddlaa.Tree
open Go Go.RowKit Go.Proofs.YtemdnmidhmddlaaW.PrintWords Go.Proofs.YtemdnmidhmddlaaW.PrintLast Go.Proofs.YtemdnmidhmddlaaW.PrintMore Go.Proofs.Ytemdnmidhmddlaa.PAll
set_option linter.unusedVariables false
set_option linter.unusedSimpArgs false
end Go.Proofs.Ytemdnmidhmddlaa.Tree
