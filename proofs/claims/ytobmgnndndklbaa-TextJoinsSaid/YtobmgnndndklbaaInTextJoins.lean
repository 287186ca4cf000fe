/- What the law's arguments read as (written by ownrow.py, a program of this session). -/
import Derived.Test.YtobmgnndndklbaaPAllx13
import Derived.Test.YtobmgnndndklbaaFrame
import Derived.KernelRfl
namespace Go.Proofs.Ytobmgnndndklbaa.PAll
open Go.RowKit Go.Proofs.YtobmgnndndklbaaW.PrintWords Go.Proofs.Ytobmgnndndklbaa.Frame
instance : Inhabited S23 := ⟨z23⟩
def good23 (x : S23) : Prop := (inK .i64) x.f0 ∧ (inK .i64) x.f1
theorem rd23 : Rd Try.prog k23 23 good23 := Rd.struct (d := (Kd.pair (Kd.int .i64) (Kd.int .i64))) (good := (fun p => (inK .i64) (p.1) ∧ (inK .i64) (p.2))) Try.underlying23 (by kernel_rfl) (RdF.cons (Rd.int Try.underlying3 (by kernel_rfl)) rfl (RdF.one (Rd.int Try.underlying3 (by kernel_rfl)) rfl)) (fun x : S23 => (x.f0, x.f1)) (fun p => (⟨p.1, p.2⟩ : S23)) (fun _ => rfl)
def oriellaw01_TextJoins.Pure : Prop := ∀ (a0 : ByteArray) (a1 : Int) (a2 : Int) (a3 : Int) (a4 : List (S23)), inS a0 → (inK .i64) a1 → (inK .i64) a2 → (inK .i64) a3 → (inL good23) a4 → ∃ k, oriellaw01_TextJoins.f k a0 a1 a2 a3 a4 = some true
end Go.Proofs.Ytobmgnndndklbaa.PAll
