/-
  NARROWER THAN 'FOR EVERY INPUT', by the rows' own cells (each row's printed sentence says how): EnvTwice: loops · EnvSame: loops · EnvOpens: loops.
  DERIVED. THE GIVEN ROWS OF THIS SEAT. 3 by the template 'for every input the law returns true; each argument reads behind the call as it read before'; 0 by the template 'total and deterministic' (their statements: YtkdfbfhajojdeaaTotals.lean).
  GIVEN WITH THE SEED: the statements are not yours to turn. If you find one false, say at which input.
  Laid BY PROGRAM, IN A SANDBOX (cutbox-rows.mjs): the forced cells as the released guide's own fill.sh prints them over the translation 82159ecc0d70db6a… (all of the seat's roots in one cut). By AI agents, Wed Nov 11 2026. No macro, syntax, notation, axiom, sorry.
-/
import Derived.Test.YtkdfbfhajojdeaaChecked
import GoSem.Claim
import GoSem.ClaimJoined
import GoSem.ClaimMapViews
import Derived.JoinedTies
import Derived.KernelRfl
namespace Go.Proofs.Ytkdfbfhajojdeaa
/- THE CELL 'sum', in the pinned program and in every row, IS THE sha256 OF THE DUMP (.gsa) THAT YtkdfbfhajojdeaaProg.lean LOADS. Nothing in Lean hashes anything: it is a label: what it is worth is what the hold of that sum in a sandbox is worth. -/
noncomputable def Try.pinned : Pinned := { name := "ytkdfbfhajojdeaa", sum := "82159ecc0d70db6a07ed388883dfa673d176f04d77ec0669930401a532cefba8", checked := Try.checked }
namespace Rows
def none {H : Type} : Left H := { results := [], args := [] }

/-- 'oriellaw11.EnvTwice': WHATEVER THE INPUT: true; the input reads as it did. -/
def envTwiceSpec : ChangeSpec := { name := "envTwice", fn := fun _ => fun
  | [d] => { results := [.lit (.bool true)], args := [d] }
  | _ => none }
def envTwiceRow : OpenClaim := { program := "ytkdfbfhajojdeaa", sum := "82159ecc0d70db6a07ed388883dfa673d176f04d77ec0669930401a532cefba8", func := "oriel/oriellaw11.EnvTwice", spec := "envTwice", unfollowed := true, recurses := true, loops := true, plainKeys := false, apart := false }
def EnvTwiceSaid : Prop := envTwiceRow.holds Try.pinned (OpenSpec.ofChange envTwiceSpec)

/-- ITS FALSE NEIGHBOUR: 'it returns false'. Refute it at one input. -/
def envTwiceWrong : ChangeSpec := { name := "envTwice", fn := fun _ => fun
  | [d] => { results := [.lit (.bool false)], args := [d] }
  | _ => none }
def EnvTwiceWrongFalsely : Prop := envTwiceRow.holds Try.pinned (OpenSpec.ofChange envTwiceWrong)

/-- 'oriellaw11.EnvSame': WHATEVER THE INPUT: true; the input reads as it did. -/
def envSameSpec : ChangeSpec := { name := "envSame", fn := fun _ => fun
  | [d1, d2, d3] => { results := [.lit (.bool true)], args := [d1, d2, d3] }
  | _ => none }
def envSameRow : OpenClaim := { program := "ytkdfbfhajojdeaa", sum := "82159ecc0d70db6a07ed388883dfa673d176f04d77ec0669930401a532cefba8", func := "oriel/oriellaw11.EnvSame", spec := "envSame", unfollowed := true, recurses := true, loops := true, plainKeys := false, apart := false }
def EnvSameSaid : Prop := envSameRow.holds Try.pinned (OpenSpec.ofChange envSameSpec)

/-- ITS FALSE NEIGHBOUR: 'it returns false'. Refute it at one input. -/
def envSameWrong : ChangeSpec := { name := "envSame", fn := fun _ => fun
  | [d1, d2, d3] => { results := [.lit (.bool false)], args := [d1, d2, d3] }
  | _ => none }
def EnvSameWrongFalsely : Prop := envSameRow.holds Try.pinned (OpenSpec.ofChange envSameWrong)

/-- 'oriellaw11.EnvOpens': WHATEVER THE INPUT: true; the input reads as it did. -/
def envOpensSpec : ChangeSpec := { name := "envOpens", fn := fun _ => fun
  | [d1, d2, d3] => { results := [.lit (.bool true)], args := [d1, d2, d3] }
  | _ => none }
def envOpensRow : OpenClaim := { program := "ytkdfbfhajojdeaa", sum := "82159ecc0d70db6a07ed388883dfa673d176f04d77ec0669930401a532cefba8", func := "oriel/oriellaw11.EnvOpens", spec := "envOpens", unfollowed := true, recurses := true, loops := true, plainKeys := false, apart := false }
def EnvOpensSaid : Prop := envOpensRow.holds Try.pinned (OpenSpec.ofChange envOpensSpec)

/-- ITS FALSE NEIGHBOUR: 'it returns false'. Refute it at one input. -/
def envOpensWrong : ChangeSpec := { name := "envOpens", fn := fun _ => fun
  | [d1, d2, d3] => { results := [.lit (.bool false)], args := [d1, d2, d3] }
  | _ => none }
def EnvOpensWrongFalsely : Prop := envOpensRow.holds Try.pinned (OpenSpec.ofChange envOpensWrong)

/- THE SECOND FORM. 'bulk': how many values and letters a reading holds, each counted each time it is reached (what is shared counts as often as it is met; a slice's spare places count too). A statement '..UptoSaid' is the law's where the arguments, and the package variables that the reading takes, are together of bulk at most 1048576: NARROWER than '..Said'. Prove '..Said' where nothing that the law and all that it calls make is longer than what came in: it says more and counts as full. Else prove '..UptoSaid'. A law counts once. -/
mutual
def uptoBulk {H : Type} : DataW H → Nat
  | .lit (.string bytes) => bytes.length + 1
  | .lit _ => 1
  | .nil => 1
  | .ptr d => uptoBulk d + 1
  | .slice elems spare => uptoBulkAll elems + uptoBulkAll spare + 1
  | .agg parts => uptoBulkAll parts + 1
  | .iface _ d => uptoBulk d + 1
  | .map entries => uptoBulkEntries entries + 1
  | .held _ => 1
def uptoBulkAll {H : Type} : List (DataW H) → Nat
  | [] => 0
  | d :: r => uptoBulk d + uptoBulkAll r
def uptoBulkEntries {H : Type} : List (Lit × DataW H) → Nat
  | [] => 0
  | x :: r => uptoBulkEntry x + uptoBulkEntries r
def uptoBulkEntry {H : Type} : Lit × DataW H → Nat
  | (.string bytes, d) => bytes.length + uptoBulk d + 1
  | (_, d) => uptoBulk d + 1
 end
def uptoSmall : (H : Type) → List (DataW H) → Bool := fun _ ds => decide (uptoBulkAll ds ≤ 1048576)
def OpenSpec.upto (s : _root_.Go.ChangeSpec) : _root_.Go.OpenSpec := { _root_.Go.OpenSpec.ofChange s with cond := some uptoSmall }

/-- 'oriellaw11.EnvTwice', WHERE WHAT IT READS IS OF BULK AT MOST 1048576: true; the input reads as it did. -/
def envTwiceUptoRow : OpenClaim := { program := "ytkdfbfhajojdeaa", sum := "82159ecc0d70db6a07ed388883dfa673d176f04d77ec0669930401a532cefba8", func := "oriel/oriellaw11.EnvTwice", spec := "envTwice", unfollowed := true, recurses := true, loops := true, plainKeys := false, apart := false, narrowed := true }
def EnvTwiceUptoSaid : Prop := envTwiceUptoRow.holds Try.pinned (OpenSpec.upto envTwiceSpec)

/-- 'oriellaw11.EnvSame', WHERE WHAT IT READS IS OF BULK AT MOST 1048576: true; the input reads as it did. -/
def envSameUptoRow : OpenClaim := { program := "ytkdfbfhajojdeaa", sum := "82159ecc0d70db6a07ed388883dfa673d176f04d77ec0669930401a532cefba8", func := "oriel/oriellaw11.EnvSame", spec := "envSame", unfollowed := true, recurses := true, loops := true, plainKeys := false, apart := false, narrowed := true }
def EnvSameUptoSaid : Prop := envSameUptoRow.holds Try.pinned (OpenSpec.upto envSameSpec)

/-- 'oriellaw11.EnvOpens', WHERE WHAT IT READS IS OF BULK AT MOST 1048576: true; the input reads as it did. -/
def envOpensUptoRow : OpenClaim := { program := "ytkdfbfhajojdeaa", sum := "82159ecc0d70db6a07ed388883dfa673d176f04d77ec0669930401a532cefba8", func := "oriel/oriellaw11.EnvOpens", spec := "envOpens", unfollowed := true, recurses := true, loops := true, plainKeys := false, apart := false, narrowed := true }
def EnvOpensUptoSaid : Prop := envOpensUptoRow.holds Try.pinned (OpenSpec.upto envOpensSpec)

end Rows
end Go.Proofs.Ytkdfbfhajojdeaa
