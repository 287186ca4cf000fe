/- What the law's arguments read as (written by ownrow.py, a program of this session). -/
import Derived.Test.YtobmgnndndklbaaPPtx10
import Derived.Test.YtobmgnndndklbaaFrame
import Derived.KernelRfl
namespace Go.Proofs.Ytobmgnndndklbaa.PPt
open Go.RowKit Go.Proofs.YtobmgnndndklbaaW.PrintWords Go.Proofs.Ytobmgnndndklbaa.Frame
instance : Inhabited S23 := ⟨z23⟩
def good23 (x : S23) : Prop := (inK .i64) x.f0 ∧ (inK .i64) x.f1
theorem rd23 : Rd Try.prog k23 23 good23 := Rd.struct (d := (Kd.pair (Kd.int .i64) (Kd.int .i64))) (good := (fun p => (inK .i64) (p.1) ∧ (inK .i64) (p.2))) Try.underlying23 (by kernel_rfl) (RdF.cons (Rd.int Try.underlying3 (by kernel_rfl)) rfl (RdF.one (Rd.int Try.underlying3 (by kernel_rfl)) rfl)) (fun x : S23 => (x.f0, x.f1)) (fun p => (⟨p.1, p.2⟩ : S23)) (fun _ => rfl)
def oriellaw01_TextParts.Pure : Prop := ∀ (a0 : ByteArray) (a1 : S23) (a2 : S23), inS a0 → good23 a1 → good23 a2 → ∃ k, oriellaw01_TextParts.f k a0 a1.f0 a1.f1 a2.f0 a2.f1 = some true
end Go.Proofs.Ytobmgnndndklbaa.PPt
