/-
  No cell of these rows narrows 'for every input' (looked for: loops, veiled, ifaces, maps, wideKeys, modest, calm, conditions, laid).
  DERIVED. THE GIVEN ROWS OF THIS SEAT. 4 by the template 'for every input the law returns true; each argument reads behind the call as it read before'; 0 by the template 'total and deterministic' (their statements: YtclcnglamlegiaaTotals.lean).
  GIVEN WITH THE SEED: the statements are not yours to turn. If you find one false, say at which input.
  Laid BY PROGRAM, IN A SANDBOX (cutbox-rows.mjs): the forced cells as the released guide's own fill.sh prints them over the translation 6f69d5d310d036d7… (all of the seat's roots in one cut). By AI agents, Wed Nov 11 2026. No macro, syntax, notation, axiom, sorry.
-/
import Derived.Test.YtclcnglamlegiaaChecked
import GoSem.Claim
import GoSem.ClaimJoined
import GoSem.ClaimMapViews
import Derived.JoinedTies
import Derived.KernelRfl
namespace Go.Proofs.Ytclcnglamlegiaa
/- THE CELL 'sum', in the pinned program and in every row, IS THE sha256 OF THE DUMP (.gsa) THAT YtclcnglamlegiaaProg.lean LOADS. Nothing in Lean hashes anything: it is a label: what it is worth is what the hold of that sum in a sandbox is worth. -/
noncomputable def Try.pinned : Pinned := { name := "ytclcnglamlegiaa", sum := "6f69d5d310d036d79b1b0e5eee897fa9e6a192f783e7b366c28d2f82b5018df6", checked := Try.checked }
namespace Rows
def none {H : Type} : Left H := { results := [], args := [] }

/-- 'oriellaw35.MergeLittle': WHATEVER THE INPUT: true; the input reads as it did. -/
def mergeLittleSpec : ChangeSpec := { name := "mergeLittle", fn := fun _ => fun
  | [d1, d2] => { results := [.lit (.bool true)], args := [d1, d2] }
  | _ => none }
def mergeLittleRow : OpenClaim := { program := "ytclcnglamlegiaa", sum := "6f69d5d310d036d79b1b0e5eee897fa9e6a192f783e7b366c28d2f82b5018df6", func := "oriel/oriellaw35.MergeLittle", spec := "mergeLittle", inPlace := ["internal/abi.NoEscape"], unfollowed := true, recurses := true, apart := false }
def MergeLittleSaid : Prop := mergeLittleRow.holds Try.pinned (OpenSpec.ofChange mergeLittleSpec)

/-- ITS FALSE NEIGHBOUR: 'it returns false'. Refute it at one input. -/
def mergeLittleWrong : ChangeSpec := { name := "mergeLittle", fn := fun _ => fun
  | [d1, d2] => { results := [.lit (.bool false)], args := [d1, d2] }
  | _ => none }
def MergeLittleWrongFalsely : Prop := mergeLittleRow.holds Try.pinned (OpenSpec.ofChange mergeLittleWrong)

/-- 'oriellaw35.MergeOn': WHATEVER THE INPUT: true; the input reads as it did. -/
def mergeOnSpec : ChangeSpec := { name := "mergeOn", fn := fun _ => fun
  | [d1, d2, d3] => { results := [.lit (.bool true)], args := [d1, d2, d3] }
  | _ => none }
def mergeOnRow : OpenClaim := { program := "ytclcnglamlegiaa", sum := "6f69d5d310d036d79b1b0e5eee897fa9e6a192f783e7b366c28d2f82b5018df6", func := "oriel/oriellaw35.MergeOn", spec := "mergeOn", inPlace := ["internal/abi.NoEscape"], unfollowed := true, recurses := true, apart := false }
def MergeOnSaid : Prop := mergeOnRow.holds Try.pinned (OpenSpec.ofChange mergeOnSpec)

/-- ITS FALSE NEIGHBOUR: 'it returns false'. Refute it at one input. -/
def mergeOnWrong : ChangeSpec := { name := "mergeOn", fn := fun _ => fun
  | [d1, d2, d3] => { results := [.lit (.bool false)], args := [d1, d2, d3] }
  | _ => none }
def MergeOnWrongFalsely : Prop := mergeOnRow.holds Try.pinned (OpenSpec.ofChange mergeOnWrong)

/-- 'oriellaw35.MergeReplays': WHATEVER THE INPUT: true; the input reads as it did. -/
def mergeReplaysSpec : ChangeSpec := { name := "mergeReplays", fn := fun _ => fun
  | [d1, d2, d3] => { results := [.lit (.bool true)], args := [d1, d2, d3] }
  | _ => none }
def mergeReplaysRow : OpenClaim := { program := "ytclcnglamlegiaa", sum := "6f69d5d310d036d79b1b0e5eee897fa9e6a192f783e7b366c28d2f82b5018df6", func := "oriel/oriellaw35.MergeReplays", spec := "mergeReplays", inPlace := ["internal/abi.NoEscape"], unfollowed := true, recurses := true, apart := false }
def MergeReplaysSaid : Prop := mergeReplaysRow.holds Try.pinned (OpenSpec.ofChange mergeReplaysSpec)

/-- ITS FALSE NEIGHBOUR: 'it returns false'. Refute it at one input. -/
def mergeReplaysWrong : ChangeSpec := { name := "mergeReplays", fn := fun _ => fun
  | [d1, d2, d3] => { results := [.lit (.bool false)], args := [d1, d2, d3] }
  | _ => none }
def MergeReplaysWrongFalsely : Prop := mergeReplaysRow.holds Try.pinned (OpenSpec.ofChange mergeReplaysWrong)

/-- 'oriellaw35.MergeDoes': WHATEVER THE INPUT: true; the input reads as it did. -/
def mergeDoesSpec : ChangeSpec := { name := "mergeDoes", fn := fun _ => fun
  | [d1, d2] => { results := [.lit (.bool true)], args := [d1, d2] }
  | _ => none }
def mergeDoesRow : OpenClaim := { program := "ytclcnglamlegiaa", sum := "6f69d5d310d036d79b1b0e5eee897fa9e6a192f783e7b366c28d2f82b5018df6", func := "oriel/oriellaw35.MergeDoes", spec := "mergeDoes", inPlace := ["internal/abi.NoEscape"], unfollowed := true, recurses := true, apart := false }
def MergeDoesSaid : Prop := mergeDoesRow.holds Try.pinned (OpenSpec.ofChange mergeDoesSpec)

/-- ITS FALSE NEIGHBOUR: 'it returns false'. Refute it at one input. -/
def mergeDoesWrong : ChangeSpec := { name := "mergeDoes", fn := fun _ => fun
  | [d1, d2] => { results := [.lit (.bool false)], args := [d1, d2] }
  | _ => none }
def MergeDoesWrongFalsely : Prop := mergeDoesRow.holds Try.pinned (OpenSpec.ofChange mergeDoesWrong)

/- THE SECOND FORM. 'bulk': how many values and letters a reading holds, each counted each time it is reached (what is shared counts as often as it is met; a slice's spare places count too). A statement '..UptoSaid' is the law's where the arguments, and the package variables that the reading takes, are together of bulk at most 1048576: NARROWER than '..Said'. Prove '..Said' where nothing that the law and all that it calls make is longer than what came in: it says more and counts as full. Else prove '..UptoSaid'. A law counts once. -/
mutual
def uptoBulk {H : Type} : DataW H → Nat
  | .lit (.string bytes) => bytes.length + 1
  | .lit _ => 1
  | .nil => 1
  | .ptr d => uptoBulk d + 1
  | .slice elems spare => uptoBulkAll elems + uptoBulkAll spare + 1
  | .agg parts => uptoBulkAll parts + 1
  | .iface _ d => uptoBulk d + 1
  | .map entries => uptoBulkEntries entries + 1
  | .held _ => 1
def uptoBulkAll {H : Type} : List (DataW H) → Nat
  | [] => 0
  | d :: r => uptoBulk d + uptoBulkAll r
def uptoBulkEntries {H : Type} : List (Lit × DataW H) → Nat
  | [] => 0
  | x :: r => uptoBulkEntry x + uptoBulkEntries r
def uptoBulkEntry {H : Type} : Lit × DataW H → Nat
  | (.string bytes, d) => bytes.length + uptoBulk d + 1
  | (_, d) => uptoBulk d + 1
 end
def uptoSmall : (H : Type) → List (DataW H) → Bool := fun _ ds => decide (uptoBulkAll ds ≤ 1048576)
def OpenSpec.upto (s : _root_.Go.ChangeSpec) : _root_.Go.OpenSpec := { _root_.Go.OpenSpec.ofChange s with cond := some uptoSmall }

/-- 'oriellaw35.MergeLittle', WHERE WHAT IT READS IS OF BULK AT MOST 1048576: true; the input reads as it did. -/
def mergeLittleUptoRow : OpenClaim := { program := "ytclcnglamlegiaa", sum := "6f69d5d310d036d79b1b0e5eee897fa9e6a192f783e7b366c28d2f82b5018df6", func := "oriel/oriellaw35.MergeLittle", spec := "mergeLittle", inPlace := ["internal/abi.NoEscape"], unfollowed := true, recurses := true, apart := false, narrowed := true }
def MergeLittleUptoSaid : Prop := mergeLittleUptoRow.holds Try.pinned (OpenSpec.upto mergeLittleSpec)

/-- 'oriellaw35.MergeOn', WHERE WHAT IT READS IS OF BULK AT MOST 1048576: true; the input reads as it did. -/
def mergeOnUptoRow : OpenClaim := { program := "ytclcnglamlegiaa", sum := "6f69d5d310d036d79b1b0e5eee897fa9e6a192f783e7b366c28d2f82b5018df6", func := "oriel/oriellaw35.MergeOn", spec := "mergeOn", inPlace := ["internal/abi.NoEscape"], unfollowed := true, recurses := true, apart := false, narrowed := true }
def MergeOnUptoSaid : Prop := mergeOnUptoRow.holds Try.pinned (OpenSpec.upto mergeOnSpec)

/-- 'oriellaw35.MergeReplays', WHERE WHAT IT READS IS OF BULK AT MOST 1048576: true; the input reads as it did. -/
def mergeReplaysUptoRow : OpenClaim := { program := "ytclcnglamlegiaa", sum := "6f69d5d310d036d79b1b0e5eee897fa9e6a192f783e7b366c28d2f82b5018df6", func := "oriel/oriellaw35.MergeReplays", spec := "mergeReplays", inPlace := ["internal/abi.NoEscape"], unfollowed := true, recurses := true, apart := false, narrowed := true }
def MergeReplaysUptoSaid : Prop := mergeReplaysUptoRow.holds Try.pinned (OpenSpec.upto mergeReplaysSpec)

/-- 'oriellaw35.MergeDoes', WHERE WHAT IT READS IS OF BULK AT MOST 1048576: true; the input reads as it did. -/
def mergeDoesUptoRow : OpenClaim := { program := "ytclcnglamlegiaa", sum := "6f69d5d310d036d79b1b0e5eee897fa9e6a192f783e7b366c28d2f82b5018df6", func := "oriel/oriellaw35.MergeDoes", spec := "mergeDoes", inPlace := ["internal/abi.NoEscape"], unfollowed := true, recurses := true, apart := false, narrowed := true }
def MergeDoesUptoSaid : Prop := mergeDoesUptoRow.holds Try.pinned (OpenSpec.upto mergeDoesSpec)

end Rows
end Go.Proofs.Ytclcnglamlegiaa
