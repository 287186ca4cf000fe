/- What the law's arguments read as (written by ownrow.py, a program of this session). -/
import Derived.Test.YtjekpecobkaaoaaDoorPAllx24
import Derived.Test.YtjekpecobkaaoaaDoorFrame
import Derived.KernelRfl
namespace Go.Proofs.YtjekpecobkaaoaaDoor.PAll
open Go.RowKit Go.Proofs.YtjekpecobkaaoaaDoorW.PrintWords Go.Proofs.YtjekpecobkaaoaaDoor.Frame

def oriellaw03_PackLaws.Pure : Prop := ∀ (a0 : List (Int)) (a1 : List (Int)) (a2 : List (Int)), (inL (inK .i64)) a0 → (inL (inK .i64)) a1 → (inL (inK .i64)) a2 → ∃ k, oriellaw03_PackLaws.f k a0 a1 a2 = some true
end Go.Proofs.YtjekpecobkaaoaaDoor.PAll
