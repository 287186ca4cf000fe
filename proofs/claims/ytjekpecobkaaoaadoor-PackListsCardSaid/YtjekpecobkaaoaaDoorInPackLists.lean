/- What the law's arguments read as (written by ownrow.py, a program of this session). -/
import Derived.Test.YtjekpecobkaaoaaDoorPAllx21
import Derived.Test.YtjekpecobkaaoaaDoorFrame
import Derived.KernelRfl
namespace Go.Proofs.YtjekpecobkaaoaaDoor.PAll
open Go.RowKit Go.Proofs.YtjekpecobkaaoaaDoorW.PrintWords Go.Proofs.YtjekpecobkaaoaaDoor.Frame

def oriellaw03_PackLists.Pure : Prop := ∀ (a0 : List (Int)), (inL (inK .u8)) a0 → ∃ k, oriellaw03_PackLists.f k a0 = some true
end Go.Proofs.YtjekpecobkaaoaaDoor.PAll
