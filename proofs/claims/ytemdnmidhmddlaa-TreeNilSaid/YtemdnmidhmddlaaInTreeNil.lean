/- What the law's arguments read as (written by ownrow.py, a program of this session). -/
import Derived.Test.YtemdnmidhmddlaaTrN
import Derived.Test.YtemdnmidhmddlaaFrame
import Derived.KernelRfl
namespace Go.Proofs.Ytemdnmidhmddlaa.PAll
open Go.RowKit Go.Proofs.YtemdnmidhmddlaaW.PrintWords Go.Proofs.Ytemdnmidhmddlaa.Frame

def oriellaw06_TreeNil.Pure : Prop := ∀ (a0 : Int), (inK .i64) a0 → oriellaw06_TreeNil.f a0 = some true
end Go.Proofs.Ytemdnmidhmddlaa.PAll
