/- What the law's arguments read as (written by ownrow.py, a program of this session). -/
import Derived.Test.YtjekpecobkaaoaaDoorPAllx20
import Derived.Test.YtjekpecobkaaoaaDoorFrame
import Derived.KernelRfl
namespace Go.Proofs.YtjekpecobkaaoaaDoor.PAll
open Go.RowKit Go.Proofs.YtjekpecobkaaoaaDoorW.PrintWords Go.Proofs.YtjekpecobkaaoaaDoor.Frame

def oriellaw03_PackBack.Pure : Prop := ∀ (a0 : Int) (a1 : Int) (a2 : List (Int)) (a3 : List (Int)), (inK .u64) a0 → (inK .i64) a1 → (inL (inK .i64)) a2 → (inL (inK .i64)) a3 → ∃ k, oriellaw03_PackBack.f k a0 a1 a2 a3 = some true
end Go.Proofs.YtjekpecobkaaoaaDoor.PAll
