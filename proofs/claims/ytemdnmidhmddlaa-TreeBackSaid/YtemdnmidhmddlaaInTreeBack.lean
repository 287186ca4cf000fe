/- What the law's arguments read as (written by ownrow.py, a program of this session). -/
import Derived.Test.YtemdnmidhmddlaaTrK
import Derived.Test.YtemdnmidhmddlaaFrameB
import Derived.KernelRfl
namespace Go.Proofs.Ytemdnmidhmddlaa.PAll
open Go.RowKit Go.Proofs.YtemdnmidhmddlaaW.PrintWords Go.Proofs.Ytemdnmidhmddlaa.Frame
instance : Inhabited S25 := ⟨z25⟩
inductive Good25 : S25 → Prop
  | mk (x : S25) : (inK .i64) x.f0 → (inK .i64) x.f1 → (inK .i64) x.f2 → (inK .i64) x.f3 → (inL (inK .i64)) x.f4 → x.f5.length ≤ maxLen → (∀ y ∈ x.f5, Good25 y) → Good25 x
abbrev good25 (x : S25) : Prop := Good25 x
theorem rdB25 : ∀ N : Nat, RdB Try.prog k25 25 good25 N
  | 0 => ⟨by kernel_rfl, fun fuel hf cs x h => by
    obtain rfl : fuel = 0 := by omega
    simp [DataW.trod] at h⟩
  | N + 1 => by
    have ih := rdB25 N
    refine RdB.imp (d := F25 k25) (good := fun x : S25 => (fun p => (inK .i64) (p.1) ∧ (inK .i64) (p.2.1) ∧ (inK .i64) (p.2.2.1) ∧ (inK .i64) (p.2.2.2.1) ∧ (inL (inK .i64)) (p.2.2.2.2.1) ∧ (inL good25) (p.2.2.2.2.2)) (x.f0, x.f1, x.f2, x.f3, x.f4, x.f5)) (N := N + 1) (RdB.struct (d := (Kd.pair (Kd.int .i64) (Kd.pair (Kd.int .i64) (Kd.pair (Kd.int .i64) (Kd.pair (Kd.int .i64) (Kd.pair (Kd.slice 3 (Kd.int .i64)) (Kd.slice 25 k25))))))) (good := (fun p => (inK .i64) (p.1) ∧ (inK .i64) (p.2.1) ∧ (inK .i64) (p.2.2.1) ∧ (inK .i64) (p.2.2.2.1) ∧ (inL (inK .i64)) (p.2.2.2.2.1) ∧ (inL good25) (p.2.2.2.2.2))) Try.underlying25 (by kernel_rfl) (RdFB.cons ((Rd.int Try.underlying3 (by kernel_rfl)).b N) rfl (RdFB.cons ((Rd.int Try.underlying3 (by kernel_rfl)).b N) rfl (RdFB.cons ((Rd.int Try.underlying3 (by kernel_rfl)).b N) rfl (RdFB.cons ((Rd.int Try.underlying3 (by kernel_rfl)).b N) rfl (RdFB.cons ((Rd.slice Try.underlying22 (by kernel_rfl) (Rd.int Try.underlying3 (by kernel_rfl))).b N) rfl (RdFB.one ((RdB.slice Try.underlying23 (by kernel_rfl) ih).imp rfl (fun _ _ _ h => h) (fun _ h => h) (Nat.le_succ N)) rfl)))))) (fun x : S25 => (x.f0, x.f1, x.f2, x.f3, x.f4, x.f5)) (fun p => (⟨p.1, p.2.1, p.2.2.1, p.2.2.2.1, p.2.2.2.2.1, p.2.2.2.2.2⟩ : S25)) (fun _ => rfl)) rfl ?_ ?_ (Nat.le_refl _)
    · intro w x cs h
      obtain ⟨_, _, rfl, rfl, ⟨_, _, rfl, rfl, ⟨_, _, rfl, rfl, ⟨_, _, rfl, rfl, ⟨_, _, rfl, ⟨A4, c4, rfl, l4, g4⟩, ⟨A5, c5, rfl, l5, g5⟩⟩⟩⟩⟩⟩ := h
      exact k25_mk w x l4 g4 l5 g5
    · rintro x ⟨h0, h1, h2, h3, h4, h5⟩
      exact Good25.mk x h0 h1 h2 h3 h4 h5.1 h5.2
theorem rd25 : Rd Try.prog k25 25 good25 := Rd.of rdB25
def oriellaw06_TreeBack.Pure : Prop := ∀ (a0 : S25) (a1 : S25), good25 a0 → good25 a1 → oriellaw06_TreeBack.f a0 a1 = some true
end Go.Proofs.Ytemdnmidhmddlaa.PAll
