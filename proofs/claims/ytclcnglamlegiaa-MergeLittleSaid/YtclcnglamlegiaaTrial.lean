/- The contract of trial.Apply, as it is told to those that call it. Conditions: as the theorems say. -/
import Derived.Test.YtclcnglamlegiaaTrialA
namespace Go.Proofs.Ytclcnglamlegiaa.Trial
open Go Go.RowKit Go.Proofs.YtclcnglamlegiaaW.PrintWords Go.Proofs.YtclcnglamlegiaaW.PrintLast Go.Proofs.YtclcnglamlegiaaW.PrintMore Go.Proofs.Ytclcnglamlegiaa.PML
def f (k : Nat) (a : List S36) (L : List S34) : Option (List S36 × Int × Int × Int) := trial_Apply.f k a L
theorem mono_f : ∀ a0 a1 k, LeO (f k a0 a1) (f (k + 1) a0 a1) := trial_Apply.mono
theorem apply (k : Nat) (A0 : Option Addr) (c0 : Nat) (l0 : List S36) (A1 : Option Addr) (c1 : Nat) (l1 : List S34) (r1 : List S36) (r2 r3 r4 : Int) (w : World) (hr0 : Kd.C k36 w A0 l0.length l0) (hc0 : l0.length ≤ c0) (hr1 : Kd.C k34 w A1 l1.length l1) (hc1 : l1.length ≤ c1) (h : f k l0 l1 = some (r1, r2, r3, r4)) :
    Calls Try.prog 32 #[.slice A0 l0.length c0, .slice A1 l1.length c1] w fun e w' => ∃ v0_ : Value, e = .returned (.tuple #[v0_, .agg #[.int .i64 r2, .int .i64 r3, .int .i64 r4]]) ∧ Kd.R k36 36 w' w.heap.size (fun _ => True) v0_ r1 ∧ Below w.heap.size w w' :=
  trial_Apply.calls k A0 c0 l0 A1 c1 l1 r1 r2 r3 r4 w hr0 hc0 hr1 hc1 h
end Go.Proofs.Ytclcnglamlegiaa.Trial
