/- What the law's arguments read as (written by ownrow.py, a program of this session). -/
import Derived.Test.YtnemooemifbbhaaDoorPDDx11
import Derived.Test.YtnemooemifbbhaaDoorFrame
import Derived.KernelRfl
namespace Go.Proofs.YtnemooemifbbhaaDoor.PDD
open Go.RowKit Go.Proofs.YtnemooemifbbhaaDoorW.PrintWords Go.Proofs.YtnemooemifbbhaaDoor.Frame

def oriellaw27_DiffDoes.Pure : Prop := ∀ (a0 : ByteArray) (a1 : ByteArray), inS a0 → inS a1 → ∃ k, oriellaw27_DiffDoes.f k a0 a1 = some true
end Go.Proofs.YtnemooemifbbhaaDoor.PDD
