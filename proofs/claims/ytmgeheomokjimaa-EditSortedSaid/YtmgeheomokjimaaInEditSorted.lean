/- What the law's arguments read as (written by ownrow.py, a program of this session). -/
import Derived.Test.YtmgeheomokjimaaPSox23
import Derived.Test.YtmgeheomokjimaaFrame
import Derived.KernelRfl
namespace Go.Proofs.Ytmgeheomokjimaa.PSo
open Go.RowKit Go.Proofs.YtmgeheomokjimaaW.PrintWords Go.Proofs.Ytmgeheomokjimaa.Frame
instance : Inhabited S47 := ⟨z47⟩
def good47 (x : S47) : Prop := (inK .i64) x.f0 ∧ (inK .i64) x.f1 ∧ inS x.f2
theorem rd47 : Rd Try.prog k47 47 good47 := Rd.struct (d := (Kd.pair (Kd.int .i64) (Kd.pair (Kd.int .i64) Kd.string))) (good := (fun p => (inK .i64) (p.1) ∧ (inK .i64) (p.2.1) ∧ inS (p.2.2))) Try.underlying47 (by kernel_rfl) (RdF.cons (Rd.int Try.underlying3 (by kernel_rfl)) rfl (RdF.cons (Rd.int Try.underlying3 (by kernel_rfl)) rfl (RdF.one (Rd.string Try.underlying9 (by kernel_rfl)) rfl))) (fun x : S47 => (x.f0, x.f1, x.f2)) (fun p => (⟨p.1, p.2.1, p.2.2⟩ : S47)) (fun _ => rfl)
def oriellaw02_EditSorted.Pure : Prop := ∀ (a0 : ByteArray) (a1 : List (S47)), inS a0 → (inL good47) a1 → ∃ k, oriellaw02_EditSorted.f k a0 a1 = some true
end Go.Proofs.Ytmgeheomokjimaa.PSo
