-- Written by ownprint.py, a program of this session (out of the kit's print, with contracts of the session's own).
import Derived.Test.YtnemooemifbbhaaDoorEdB
import Derived.Test.YtnemooemifbbhaaDoorPDTx6s
import Derived.Test.YtnemooemifbbhaaDoorPDTx0
import Derived.Test.YtnemooemifbbhaaDoorPDTx4
namespace Go.Proofs.YtnemooemifbbhaaDoor.PDT
open Go.RowKit Go.Proofs.YtnemooemifbbhaaDoorW.PrintWords Go.Proofs.YtnemooemifbbhaaDoorW.PrintLast Go.Proofs.YtnemooemifbbhaaDoorW.PrintMore
attribute [local go_sem] max2_int min2_int max_two min_two max_three min_three max_four min_four   -- for this text's walks alone
set_option linter.unusedVariables false
set_option linter.unusedSimpArgs false
/-! ### diff_Edits: function 17 -/
def diff_Edits.f (k : Nat) (a0 a1 : ByteArray) : Option (List S56) :=
 (diff_Lines.f k a0).bind fun a => (diff_Lines.f k a1).bind fun b => (diff_starts.f k a).bind fun x => (diff_starts.f k b).bind fun y =>
  if a.length ≤ 1000000 ∧ b.length ≤ 1000000 then Fill.runs a1 x y 0 0 [] (Fill.pairs a b ++ [(⟨(a.length : Int), (b.length : Int)⟩ : S36)]) else none
theorem diff_Edits.mono : ∀ a0 a1 k, LeO (diff_Edits.f k a0 a1) (diff_Edits.f (k + 1) a0 a1) := by
 intro a0 a1 k
 unfold diff_Edits.f
 exact LeO.bind (diff_Lines.mono _ _) (fun _ => LeO.bind (diff_Lines.mono _ _) (fun _ => LeO.bind (diff_starts.mono _ _) (fun _ => LeO.bind (diff_starts.mono _ _) (fun _ => LeO.refl _))))
theorem diff_Edits.calls (k : Nat) (a0 a1 : ByteArray) (r : List S56) (w : World) (h : diff_Edits.f k a0 a1 = some r) :
  Calls Tryd.prog 17 #[.string a0, .string a1] w fun e w' => ∃ v0_ : Value, e = .returned (v0_) ∧ Kd.R k56 56 w' w.heap.size (fun _ => True) v0_ r ∧ Below w.heap.size w w' := by
 unfold diff_Edits.f at h
 obtain ⟨a, hA, h⟩ := Option.bind_eq_some_iff.mp h
 obtain ⟨b, hB, h⟩ := Option.bind_eq_some_iff.mp h
 obtain ⟨x, hX, h⟩ := Option.bind_eq_some_iff.mp h
 obtain ⟨y, hY, h⟩ := Option.bind_eq_some_iff.mp h
 by_cases c : a.length ≤ 1000000 ∧ b.length ≤ 1000000
 ·rw [if_pos c] at h
  exact Fill.edits k a0 a1 a b x y r w hA hB hX hY c.1 c.2 h
 ·rw [if_neg c] at h
  cases h
end Go.Proofs.YtnemooemifbbhaaDoor.PDT
