/- What the law's arguments read as (written by ownrow.py, a program of this session). -/
import Derived.Test.YtnemooemifbbhaaDoorPDLx9
import Derived.Test.YtnemooemifbbhaaDoorFrame
import Derived.KernelRfl
namespace Go.Proofs.YtnemooemifbbhaaDoor.PDL
open Go.RowKit Go.Proofs.YtnemooemifbbhaaDoorW.PrintWords Go.Proofs.YtnemooemifbbhaaDoor.Frame

def oriellaw27_DiffLeast.Pure : Prop := ∀ (a0 : List (ByteArray)) (a1 : List (ByteArray)), (inL inS) a0 → (inL inS) a1 → ∃ k, oriellaw27_DiffLeast.f k a0 a1 [a0, a1] = some true
end Go.Proofs.YtnemooemifbbhaaDoor.PDL
