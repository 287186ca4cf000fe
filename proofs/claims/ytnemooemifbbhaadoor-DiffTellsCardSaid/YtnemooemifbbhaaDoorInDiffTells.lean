/- What the law's arguments read as (written by ownrow.py, a program of this session). -/
import Derived.Test.YtnemooemifbbhaaDoorPDTx29
import Derived.Test.YtnemooemifbbhaaDoorFrame
import Derived.KernelRfl
namespace Go.Proofs.YtnemooemifbbhaaDoor.PDT
open Go.RowKit Go.Proofs.YtnemooemifbbhaaDoorW.PrintWords Go.Proofs.YtnemooemifbbhaaDoor.Frame
instance : Inhabited S56 := ⟨z56⟩
def good56 (x : S56) : Prop := (inK .i64) x.f0 ∧ (inK .i64) x.f1 ∧ inS x.f2
set_option maxRecDepth 100000 in
theorem rd56 : Rd Tryd.prog k56 56 good56 := Rd.struct (d := (Kd.pair (Kd.int .i64) (Kd.pair (Kd.int .i64) Kd.string))) (good := (fun p => (inK .i64) (p.1) ∧ (inK .i64) (p.2.1) ∧ inS (p.2.2))) Tryd.underlying56 (by kernel_rfl) (RdF.cons (Rd.int Tryd.underlying3 (by kernel_rfl)) rfl (RdF.cons (Rd.int Tryd.underlying3 (by kernel_rfl)) rfl (RdF.one (Rd.string Tryd.underlying9 (by kernel_rfl)) rfl))) (fun x : S56 => (x.f0, x.f1, x.f2)) (fun p => (⟨p.1, p.2.1, p.2.2⟩ : S56)) (fun _ => rfl)
def oriellaw27_DiffTells.Pure : Prop := ∀ (a0 : ByteArray) (a1 : List (S56)) (a2 : ByteArray), inS a0 → (inL good56) a1 → inS a2 → ∃ k, oriellaw27_DiffTells.f k a0 a1 a2 = some true
end Go.Proofs.YtnemooemifbbhaaDoor.PDT
