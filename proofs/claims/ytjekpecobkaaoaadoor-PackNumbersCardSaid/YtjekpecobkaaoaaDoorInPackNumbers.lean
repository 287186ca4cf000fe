/- What the law's arguments read as (written by ownrow.py, a program of this session). -/
import Derived.Test.YtjekpecobkaaoaaDoorPAllx17
import Derived.Test.YtjekpecobkaaoaaDoorFrame
import Derived.KernelRfl
namespace Go.Proofs.YtjekpecobkaaoaaDoor.PAll
open Go.RowKit Go.Proofs.YtjekpecobkaaoaaDoorW.PrintWords Go.Proofs.YtjekpecobkaaoaaDoor.Frame

def oriellaw03_PackNumbers.Pure : Prop := ∀ (a0 : Int) (a1 : List (Int)) (a2 : List (Int)), (inK .u64) a0 → (inL (inK .u8)) a1 → (inL (inK .u8)) a2 → ∃ k, oriellaw03_PackNumbers.f k a0 a1 a2 = some true
end Go.Proofs.YtjekpecobkaaoaaDoor.PAll
