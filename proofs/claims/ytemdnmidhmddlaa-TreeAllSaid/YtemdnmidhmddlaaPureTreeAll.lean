/- Every branch of the form's reach has rows of names that are not too long. -/
import Derived.Test.YtemdnmidhmddlaaInTreeAll
namespace Go.Proofs.Ytemdnmidhmddlaa.Pure
open Go.RowKit Go.Proofs.YtemdnmidhmddlaaW.PrintWords Go.Proofs.Ytemdnmidhmddlaa.PAll Go.Proofs.Ytemdnmidhmddlaa.Frame
theorem good_ {x : S25} (h : Good25 x) : Tree.GoodB x := by
  induction h with
  | mk x h0 h1 h2 h3 h4 h5 h6 ih =>
    refine .mk x ?_ (fun y hy => ih y hy)
    have h7 := h4.1
    have hb : Try.prog.bytesOf 3 = 8 := by kernel_rfl
    rw [hb] at h7
    have hr : reachBytes < 140737488355328 := by decide
    omega
theorem TreeAll : oriellaw06_TreeAll.Pure := by
  intro a0 h
  unfold oriellaw06_TreeAll.f
  rw [if_pos (good_ h)]
end Go.Proofs.Ytemdnmidhmddlaa.Pure
