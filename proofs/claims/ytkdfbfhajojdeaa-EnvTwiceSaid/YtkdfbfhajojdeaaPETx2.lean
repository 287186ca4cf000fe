-- Written by ownprint.py, a program of this session (out of the kit's print, with contracts of the session's own).
import Derived.Test.YtkdfbfhajojdeaaEnvJ
import Derived.Test.YtkdfbfhajojdeaaPETx0
namespace Go.Proofs.Ytkdfbfhajojdeaa.PET
open Go.Proofs.Ytkdfbfhajojdeaa Go.RowKit Go.Proofs.YtkdfbfhajojdeaaW.PrintWords Go.Proofs.YtkdfbfhajojdeaaW.PrintLast Go.Proofs.YtkdfbfhajojdeaaW.PrintMore
attribute [local go_sem] max2_int min2_int max_two min_two max_three min_three max_four min_four   -- for this text's walks alone
set_option linter.unusedVariables false
set_option linter.unusedSimpArgs false

/-! ### oriellaw11_alive: function 6 -/
def oriellaw11_alive.f : Option Bool := some true
theorem oriellaw11_alive.calls (r : Bool) (w : World) (h : oriellaw11_alive.f = some r) :
    Calls Try.prog 6 #[] w fun e w' => e = .returned (.bool r) ∧ Below w.heap.size w w' := by
  injection h with h
  subst h
  exact Env.alive w

/-! ### env_Twice: function 7 -/
def env_Twice.f (l0 : List S28) : Option (Int × Bool) := Env.twiceF l0
theorem env_Twice.calls (A0 : Option Addr) (c0 : Nat) (l0 : List S28) (r1 : Int) (r2 : Bool) (w : World) (hr0 : Kd.C k28 w A0 l0.length l0) (hc0 : l0.length ≤ c0) (h : env_Twice.f l0 = some (r1, r2)) :
    Calls Try.prog 7 #[.slice A0 l0.length c0] w fun e w' => e = .returned (.tuple #[.int .i64 r1, .bool r2]) ∧ Below w.heap.size w w' := by
  exact Env.twice A0 c0 l0 r1 r2 w hr0 hc0 h

end Go.Proofs.Ytkdfbfhajojdeaa.PET
