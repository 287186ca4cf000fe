/- What the law's arguments read as (written by ownrow.py, a program of this session). -/
import Derived.Test.YtkdfbfhajojdeaaPOPx6
import Derived.Test.YtkdfbfhajojdeaaFrameW
import Derived.KernelRfl
namespace Go.Proofs.Ytkdfbfhajojdeaa.POP
open Go.RowKit Go.Proofs.YtkdfbfhajojdeaaW.PrintWords Go.Proofs.Ytkdfbfhajojdeaa.Frame
instance : Inhabited S26 := ⟨z26⟩
inductive Good26 : S26 → Prop
  | mk (x : S26) : (inK .i64) x.f0 → inS x.f1 → (inK .i64) x.f2 → (inK .i64) x.f3 → x.f4.length * Try.prog.bytesOf 26 ≤ reachBytes → (∀ y ∈ x.f4, Good26 y) → x.f5.length * Try.prog.bytesOf 26 ≤ reachBytes → (∀ y ∈ x.f5, Good26 y) → Good26 x
abbrev good26 (x : S26) : Prop := Good26 x
theorem rdW26 : ∀ N : Nat, RdW Try.prog k26 26 good26 N
  | 0 => ⟨by kernel_rfl, fun fuel hf cs x h _ => by
    obtain rfl : fuel = 0 := by omega
    simp [DataW.trod] at h⟩
  | N + 1 => by
    have ih := rdW26 N
    refine RdW.imp (d := F26 k26) (good := fun x : S26 => (fun p => (inK .i64) (p.1) ∧ inS (p.2.1) ∧ (inK .i64) (p.2.2.1) ∧ (inK .i64) (p.2.2.2.1) ∧ (inW (Try.prog.bytesOf 26) good26) (p.2.2.2.2.1) ∧ (inW (Try.prog.bytesOf 26) good26) (p.2.2.2.2.2)) (x.f0, x.f1, x.f2, x.f3, x.f4, x.f5)) (N := N + 1) (RdW.struct (d := (Kd.pair (Kd.int .i64) (Kd.pair Kd.string (Kd.pair (Kd.int .i64) (Kd.pair (Kd.int .i64) (Kd.pair (Kd.slice 26 k26) (Kd.slice 26 k26))))))) (good := (fun p => (inK .i64) (p.1) ∧ inS (p.2.1) ∧ (inK .i64) (p.2.2.1) ∧ (inK .i64) (p.2.2.2.1) ∧ (inW (Try.prog.bytesOf 26) good26) (p.2.2.2.2.1) ∧ (inW (Try.prog.bytesOf 26) good26) (p.2.2.2.2.2))) Try.underlying26 (by kernel_rfl) (RdFW.cons ((Rd.int Try.underlying3 (by kernel_rfl)).b N).w rfl (RdFW.cons ((Rd.string Try.underlying9 (by kernel_rfl)).b N).w rfl (RdFW.cons ((Rd.int Try.underlying3 (by kernel_rfl)).b N).w rfl (RdFW.cons ((Rd.int Try.underlying3 (by kernel_rfl)).b N).w rfl (RdFW.cons ((RdW.slice Try.underlying22 (by kernel_rfl) ih).imp rfl (fun _ _ _ h => h) (fun _ h => h) (Nat.le_succ N)) rfl (RdFW.one ((RdW.slice Try.underlying22 (by kernel_rfl) ih).imp rfl (fun _ _ _ h => h) (fun _ h => h) (Nat.le_succ N)) rfl)))))) (fun x : S26 => (x.f0, x.f1, x.f2, x.f3, x.f4, x.f5)) (fun p => (⟨p.1, p.2.1, p.2.2.1, p.2.2.2.1, p.2.2.2.2.1, p.2.2.2.2.2⟩ : S26)) (fun _ => rfl)) rfl ?_ ?_ (Nat.le_refl _)
    · intro w x cs h
      obtain ⟨_, _, rfl, rfl, ⟨_, _, rfl, rfl, ⟨_, _, rfl, rfl, ⟨_, _, rfl, rfl, ⟨_, _, rfl, ⟨A4, c4, rfl, l4, g4⟩, ⟨A5, c5, rfl, l5, g5⟩⟩⟩⟩⟩⟩ := h
      exact k26_mk w x l4 g4 l5 g5
    · rintro x ⟨h0, h1, h2, h3, h4, h5⟩
      exact Good26.mk x h0 h1 h2 h3 h4.1 h4.2 h5.1 h5.2
def oriellaw11_EnvOpens.Pure : Prop := ∀ (a0 a1 : List S26) (a2 : Int), (inW (Try.prog.bytesOf 26) good26) a0 → (inW (Try.prog.bytesOf 26) good26) a1 → a0.length ≤ 1048576 → a1.length ≤ 1048576 → ∃ k, oriellaw11_EnvOpens.f k a0 a1 a2 = some true
end Go.Proofs.Ytkdfbfhajojdeaa.POP
