-- Written by ownprint.py, a program of this session (out of the kit's print, with contracts of the session's own).
import Derived.Test.YtkdfbfhajojdeaaPOPx0
import Derived.Test.YtkdfbfhajojdeaaPOPx1
import Derived.Test.YtkdfbfhajojdeaaEnvI
import Derived.Test.YtkdfbfhajojdeaaEnvT
import Derived.Test.YtkdfbfhajojdeaaPOPx4
import Derived.Test.YtkdfbfhajojdeaaPOPx5
namespace Go.Proofs.Ytkdfbfhajojdeaa.POP
open Go.Proofs.Ytkdfbfhajojdeaa Go.Proofs.Ytkdfbfhajojdeaa.Env Go.RowKit Go.Proofs.YtkdfbfhajojdeaaW.PrintWords Go.Proofs.YtkdfbfhajojdeaaW.PrintLast Go.Proofs.YtkdfbfhajojdeaaW.PrintMore
attribute [local go_sem] max2_int min2_int max_two min_two max_three min_three max_four min_four   -- for this text's walks alone
set_option linter.unusedVariables false
set_option linter.unusedSimpArgs false

/-! ### oriellaw11_alive: function 6 -/
def oriellaw11_alive.f : Option Bool := some true
theorem oriellaw11_alive.calls (r : Bool) (w : World) (h : oriellaw11_alive.f = some r) :
    Calls Try.prog 6 #[] w fun e w' => e = .returned (.bool r) ∧ Below w.heap.size w w' := by
  injection h with h
  subst h
  exact Env.alive w


/-! ### oriellaw11_EnvOpens: function 5 -/
noncomputable def oriellaw11_EnvOpens.f (k : Nat) (l0 l1 : List S26) (via : Int) : Option Bool := Opens.lawF k l0 l1 via
theorem oriellaw11_EnvOpens.calls (k : Nat) (A0 : Option Addr) (c0 : Nat) (l0 : List S26) (A1 : Option Addr) (c1 : Nat) (l1 : List S26) (via : Int) (r : Bool) (w : World) (hr0 : Kd.C k26 w A0 l0.length l0) (hc0 : l0.length ≤ c0) (hr1 : Kd.C k26 w A1 l1.length l1) (hc1 : l1.length ≤ c1) (h : oriellaw11_EnvOpens.f k l0 l1 via = some r) :
    Calls Try.prog 5 #[.slice A0 l0.length c0, .slice A1 l1.length c1, .int .i64 via] w fun e w' => e = .returned (.bool r) ∧ Below w.heap.size w w' := by
  exact Opens.law k A0 c0 l0 A1 c1 l1 via r w hr0 hc0 hr1 hc1 h

end Go.Proofs.Ytkdfbfhajojdeaa.POP
