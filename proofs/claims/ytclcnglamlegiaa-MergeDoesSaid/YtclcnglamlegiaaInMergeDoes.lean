/- What the law's arguments read as (written by ownrow.py, a program of this session). -/
import Derived.Test.YtclcnglamlegiaaPMDx27
import Derived.Test.YtclcnglamlegiaaFrame
import Derived.KernelRfl
namespace Go.Proofs.Ytclcnglamlegiaa.PMD
open Go.RowKit Go.Proofs.YtclcnglamlegiaaW.PrintWords Go.Proofs.Ytclcnglamlegiaa.Frame
instance : Inhabited S36 := ⟨z36⟩
def good36 (x : S36) : Prop := inS x.f0 ∧ inS x.f1
theorem rd36 : Rd Try.prog k36 36 good36 := Rd.struct (d := (Kd.pair Kd.string Kd.string)) (good := (fun p => inS (p.1) ∧ inS (p.2))) Try.underlying36 (by kernel_rfl) (RdF.cons (Rd.string Try.underlying9 (by kernel_rfl)) rfl (RdF.one (Rd.string Try.underlying9 (by kernel_rfl)) rfl)) (fun x : S36 => (x.f0, x.f1)) (fun p => (⟨p.1, p.2⟩ : S36)) (fun _ => rfl)
instance : Inhabited S34 := ⟨z34⟩
def good34 (x : S34) : Prop := (inK .i64) x.f0 ∧ (inK .i64) x.f1 ∧ (inK .i64) x.f2 ∧ inS x.f3
theorem rd34 : Rd Try.prog k34 34 good34 := Rd.struct (d := (Kd.pair (Kd.int .i64) (Kd.pair (Kd.int .i64) (Kd.pair (Kd.int .i64) Kd.string)))) (good := (fun p => (inK .i64) (p.1) ∧ (inK .i64) (p.2.1) ∧ (inK .i64) (p.2.2.1) ∧ inS (p.2.2.2))) Try.underlying34 (by kernel_rfl) (RdF.cons (Rd.int Try.underlying3 (by kernel_rfl)) rfl (RdF.cons (Rd.int Try.underlying3 (by kernel_rfl)) rfl (RdF.cons (Rd.int Try.underlying3 (by kernel_rfl)) rfl (RdF.one (Rd.string Try.underlying9 (by kernel_rfl)) rfl)))) (fun x : S34 => (x.f0, x.f1, x.f2, x.f3)) (fun p => (⟨p.1, p.2.1, p.2.2.1, p.2.2.2⟩ : S34)) (fun _ => rfl)
def oriellaw35_MergeDoes.Pure : Prop := ∀ (a0 : List (S36)) (a1 : List (List (S34))), (inL good36) a0 → (inL (inL good34)) a1 → ∃ k, oriellaw35_MergeDoes.f k a0 a1 = some true
end Go.Proofs.Ytclcnglamlegiaa.PMD
