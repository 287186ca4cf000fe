/- What the law's arguments read as (written by ownrow.py, a program of this session). -/
import Derived.Test.YtemdnmidhmddlaaTrAl
import Derived.Test.YtemdnmidhmddlaaFrameW
import Derived.KernelRfl
namespace Go.Proofs.Ytemdnmidhmddlaa.PAll
open Go.RowKit Go.Proofs.YtemdnmidhmddlaaW.PrintWords Go.Proofs.Ytemdnmidhmddlaa.Frame
instance : Inhabited S25 := ⟨z25⟩
inductive Good25 : S25 → Prop
  | mk (x : S25) : (inK .i64) x.f0 → (inK .i64) x.f1 → (inK .i64) x.f2 → (inK .i64) x.f3 → (inW (Try.prog.bytesOf 3) (inK .i64)) x.f4 → x.f5.length * Try.prog.bytesOf 25 ≤ reachBytes → (∀ y ∈ x.f5, Good25 y) → Good25 x
abbrev good25 (x : S25) : Prop := Good25 x
theorem rdW25 : ∀ N : Nat, RdW Try.prog k25 25 good25 N
  | 0 => ⟨by kernel_rfl, fun fuel hf cs x h _ => by
    obtain rfl : fuel = 0 := by omega
    simp [DataW.trod] at h⟩
  | N + 1 => by
    have ih := rdW25 N
    refine RdW.imp (d := F25 k25) (good := fun x : S25 => (fun p => (inK .i64) (p.1) ∧ (inK .i64) (p.2.1) ∧ (inK .i64) (p.2.2.1) ∧ (inK .i64) (p.2.2.2.1) ∧ (inW (Try.prog.bytesOf 3) (inK .i64)) (p.2.2.2.2.1) ∧ (inW (Try.prog.bytesOf 25) good25) (p.2.2.2.2.2)) (x.f0, x.f1, x.f2, x.f3, x.f4, x.f5)) (N := N + 1) (RdW.struct (d := (Kd.pair (Kd.int .i64) (Kd.pair (Kd.int .i64) (Kd.pair (Kd.int .i64) (Kd.pair (Kd.int .i64) (Kd.pair (Kd.slice 3 (Kd.int .i64)) (Kd.slice 25 k25))))))) (good := (fun p => (inK .i64) (p.1) ∧ (inK .i64) (p.2.1) ∧ (inK .i64) (p.2.2.1) ∧ (inK .i64) (p.2.2.2.1) ∧ (inW (Try.prog.bytesOf 3) (inK .i64)) (p.2.2.2.2.1) ∧ (inW (Try.prog.bytesOf 25) good25) (p.2.2.2.2.2))) Try.underlying25 (by kernel_rfl) (RdFW.cons ((Rd.int Try.underlying3 (by kernel_rfl)).b N).w rfl (RdFW.cons ((Rd.int Try.underlying3 (by kernel_rfl)).b N).w rfl (RdFW.cons ((Rd.int Try.underlying3 (by kernel_rfl)).b N).w rfl (RdFW.cons ((Rd.int Try.underlying3 (by kernel_rfl)).b N).w rfl (RdFW.cons ((RdW.slice Try.underlying22 (by kernel_rfl) ((Rd.int Try.underlying3 (by kernel_rfl)).b N).w).imp rfl (fun _ _ _ h => h) (fun _ h => h) (Nat.le_succ N)) rfl (RdFW.one ((RdW.slice Try.underlying23 (by kernel_rfl) ih).imp rfl (fun _ _ _ h => h) (fun _ h => h) (Nat.le_succ N)) rfl)))))) (fun x : S25 => (x.f0, x.f1, x.f2, x.f3, x.f4, x.f5)) (fun p => (⟨p.1, p.2.1, p.2.2.1, p.2.2.2.1, p.2.2.2.2.1, p.2.2.2.2.2⟩ : S25)) (fun _ => rfl)) rfl ?_ ?_ (Nat.le_refl _)
    · intro w x cs h
      obtain ⟨_, _, rfl, rfl, ⟨_, _, rfl, rfl, ⟨_, _, rfl, rfl, ⟨_, _, rfl, rfl, ⟨_, _, rfl, ⟨A4, c4, rfl, l4, g4⟩, ⟨A5, c5, rfl, l5, g5⟩⟩⟩⟩⟩⟩ := h
      exact k25_mk w x l4 g4 l5 g5
    · rintro x ⟨h0, h1, h2, h3, h4, h5⟩
      exact Good25.mk x h0 h1 h2 h3 h4 h5.1 h5.2
def oriellaw06_TreeAll.Pure : Prop := ∀ (a0 : S25), good25 a0 → oriellaw06_TreeAll.f a0 = some true
end Go.Proofs.Ytemdnmidhmddlaa.PAll
