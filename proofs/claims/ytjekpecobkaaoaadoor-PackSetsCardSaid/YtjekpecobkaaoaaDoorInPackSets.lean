/- What the law's arguments read as (written by ownrow.py, a program of this session). -/
import Derived.Test.YtjekpecobkaaoaaDoorPAllx29
import Derived.Test.YtjekpecobkaaoaaDoorFrame
import Derived.KernelRfl
namespace Go.Proofs.YtjekpecobkaaoaaDoor.PAll
open Go.RowKit Go.Proofs.YtjekpecobkaaoaaDoorW.PrintWords Go.Proofs.YtjekpecobkaaoaaDoor.Frame

def oriellaw03_PackSets.Pure : Prop := ∀ (a0 : List (Int)) (a1 : List (Int)) (a2 : List (Int)) (a3 : Int), (inL (inK .u64)) a0 → (inL (inK .u64)) a1 → (inL (inK .i64)) a2 → (inK .i64) a3 → ∃ k, oriellaw03_PackSets.f k a0 a1 a2 a3 = some true
end Go.Proofs.YtjekpecobkaaoaaDoor.PAll
