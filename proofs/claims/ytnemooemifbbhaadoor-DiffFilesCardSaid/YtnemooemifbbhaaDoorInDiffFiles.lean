/- What the law's arguments read as (written by ownrow.py, a program of this session). -/
import Derived.Test.YtnemooemifbbhaaDoorPDFx19
import Derived.Test.YtnemooemifbbhaaDoorFrame
import Derived.KernelRfl
namespace Go.Proofs.YtnemooemifbbhaaDoor.PDF
open Go.RowKit Go.Proofs.YtnemooemifbbhaaDoorW.PrintWords Go.Proofs.YtnemooemifbbhaaDoor.Frame
instance : Inhabited S43 := ⟨z43⟩
def good43 (x : S43) : Prop := inS x.f0 ∧ inS x.f1
theorem rd43 : Rd Tryd.prog k43 43 good43 := Rd.struct (d := (Kd.pair Kd.string Kd.string)) (good := (fun p => inS (p.1) ∧ inS (p.2))) Tryd.underlying43 (by kernel_rfl) (RdF.cons (Rd.string Tryd.underlying9 (by kernel_rfl)) rfl (RdF.one (Rd.string Tryd.underlying9 (by kernel_rfl)) rfl)) (fun x : S43 => (x.f0, x.f1)) (fun p => (⟨p.1, p.2⟩ : S43)) (fun _ => rfl)
def oriellaw27_DiffFiles.Pure : Prop := ∀ (a0 : List (S43)) (a1 : List (S43)), (inL good43) a0 → (inL good43) a1 → ∃ k, oriellaw27_DiffFiles.f k a0 a1 = some true
end Go.Proofs.YtnemooemifbbhaaDoor.PDF
