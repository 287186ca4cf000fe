-- Written by ownprint.py, a program of this session (out of the kit's print, with contracts of the session's own).
import Derived.Test.YtkdfbfhajojdeaaPESx0
import Derived.Test.YtkdfbfhajojdeaaPESx1
import Derived.Test.YtkdfbfhajojdeaaEnvI
import Derived.Test.YtkdfbfhajojdeaaEnvP
namespace Go.Proofs.Ytkdfbfhajojdeaa.PES
open Go.Proofs.Ytkdfbfhajojdeaa Go.Proofs.Ytkdfbfhajojdeaa.Env Go.RowKit Go.Proofs.YtkdfbfhajojdeaaW.PrintWords Go.Proofs.YtkdfbfhajojdeaaW.PrintLast Go.Proofs.YtkdfbfhajojdeaaW.PrintMore
attribute [local go_sem] max2_int min2_int max_two min_two max_three min_three max_four min_four   -- for this text's walks alone
set_option linter.unusedVariables false
set_option linter.unusedSimpArgs false

/-! ### oriellaw11_alive: function 6 -/
def oriellaw11_alive.f : Option Bool := some true
theorem oriellaw11_alive.calls (r : Bool) (w : World) (h : oriellaw11_alive.f = some r) :
    Calls Try.prog 6 #[] w fun e w' => e = .returned (.bool r) ∧ Below w.heap.size w w' := by
  injection h with h
  subst h
  exact Env.alive w


-- NOT PRINTED: function 11 (orielref11_Same)

/-! ### oriellaw11_EnvSame: function 4 -/
noncomputable def oriellaw11_EnvSame.f (k : Nat) (l0 l1 l2 : List S26) : Option Bool := Same.lawF k l0 l1 l2
theorem oriellaw11_EnvSame.calls (k : Nat) (A0 : Option Addr) (c0 : Nat) (l0 : List S26) (A1 : Option Addr) (c1 : Nat) (l1 : List S26) (A2 : Option Addr) (c2 : Nat) (l2 : List S26) (r : Bool) (w : World) (hr0 : Kd.C k26 w A0 l0.length l0) (hc0 : l0.length ≤ c0) (hr1 : Kd.C k26 w A1 l1.length l1) (hc1 : l1.length ≤ c1) (hr2 : Kd.C k26 w A2 l2.length l2) (hc2 : l2.length ≤ c2) (h : oriellaw11_EnvSame.f k l0 l1 l2 = some r) :
    Calls Try.prog 4 #[.slice A0 l0.length c0, .slice A1 l1.length c1, .slice A2 l2.length c2] w fun e w' => e = .returned (.bool r) ∧ Below w.heap.size w w' := by
  exact Same.law k A0 c0 l0 A1 c1 l1 A2 c2 l2 r w hr0 hc0 hr1 hc1 hr2 hc2 h

end Go.Proofs.Ytkdfbfhajojdeaa.PES
