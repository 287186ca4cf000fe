/-
  No cell of these rows narrows 'for every input' (looked for: loops, veiled, ifaces, maps, wideKeys, modest, calm, conditions, laid).
  DERIVED. THE GIVEN ROWS OF THIS SEAT. 6 by the template 'for every input the law returns true; each argument reads behind the call as it read before'; 0 by the template 'total and deterministic' (their statements: YtmgeheomokjimaaTotals.lean).
  GIVEN WITH THE SEED: the statements are not yours to turn. If you find one false, say at which input.
  Laid BY PROGRAM, IN A SANDBOX (cutbox-rows.mjs): the forced cells as the released guide's own fill.sh prints them over the translation aeb85c795fd81e9f… (all of the seat's roots in one cut). By AI agents, Wed Nov 11 2026. No macro, syntax, notation, axiom, sorry.
-/
import Derived.Test.YtmgeheomokjimaaChecked
import GoSem.Claim
import GoSem.ClaimJoined
import GoSem.ClaimMapViews
import Derived.JoinedTies
import Derived.KernelRfl
namespace Go.Proofs.Ytmgeheomokjimaa
/- THE CELL 'sum', in the pinned program and in every row, IS THE sha256 OF THE DUMP (.gsa) THAT YtmgeheomokjimaaProg.lean LOADS. Nothing in Lean hashes anything: it is a label: what it is worth is what the hold of that sum in a sandbox is worth. -/
noncomputable def Try.pinned : Pinned := { name := "ytmgeheomokjimaa", sum := "aeb85c795fd81e9f484b8ebe527c4df8389684c635956e3d99de6e1b42692496", checked := Try.checked }
namespace Rows
def none {H : Type} : Left H := { results := [], args := [] }

/-- 'oriellaw02.EditKeeps': WHATEVER THE INPUT: true; the input reads as it did. -/
def editKeepsSpec : ChangeSpec := { name := "editKeeps", fn := fun _ => fun
  | [d1, d2, d3] => { results := [.lit (.bool true)], args := [d1, d2, d3] }
  | _ => none }
def editKeepsRow : OpenClaim := { program := "ytmgeheomokjimaa", sum := "aeb85c795fd81e9f484b8ebe527c4df8389684c635956e3d99de6e1b42692496", func := "oriel/oriellaw02.EditKeeps", spec := "editKeeps", inPlace := ["internal/abi.NoEscape"], unfollowed := true, recurses := true, apart := false }
def EditKeepsSaid : Prop := editKeepsRow.holds Try.pinned (OpenSpec.ofChange editKeepsSpec)

/-- ITS FALSE NEIGHBOUR: 'it returns false'. Refute it at one input. -/
def editKeepsWrong : ChangeSpec := { name := "editKeeps", fn := fun _ => fun
  | [d1, d2, d3] => { results := [.lit (.bool false)], args := [d1, d2, d3] }
  | _ => none }
def EditKeepsWrongFalsely : Prop := editKeepsRow.holds Try.pinned (OpenSpec.ofChange editKeepsWrong)

/-- 'oriellaw02.EditBack': WHATEVER THE INPUT: true; the input reads as it did. -/
def editBackSpec : ChangeSpec := { name := "editBack", fn := fun _ => fun
  | [d1, d2] => { results := [.lit (.bool true)], args := [d1, d2] }
  | _ => none }
def editBackRow : OpenClaim := { program := "ytmgeheomokjimaa", sum := "aeb85c795fd81e9f484b8ebe527c4df8389684c635956e3d99de6e1b42692496", func := "oriel/oriellaw02.EditBack", spec := "editBack", inPlace := ["internal/abi.NoEscape"], unfollowed := true, recurses := true, apart := false }
def EditBackSaid : Prop := editBackRow.holds Try.pinned (OpenSpec.ofChange editBackSpec)

/-- ITS FALSE NEIGHBOUR: 'it returns false'. Refute it at one input. -/
def editBackWrong : ChangeSpec := { name := "editBack", fn := fun _ => fun
  | [d1, d2] => { results := [.lit (.bool false)], args := [d1, d2] }
  | _ => none }
def EditBackWrongFalsely : Prop := editBackRow.holds Try.pinned (OpenSpec.ofChange editBackWrong)

/-- 'oriellaw02.EditStands': WHATEVER THE INPUT: true; the input reads as it did. -/
def editStandsSpec : ChangeSpec := { name := "editStands", fn := fun _ => fun
  | [d1, d2] => { results := [.lit (.bool true)], args := [d1, d2] }
  | _ => none }
def editStandsRow : OpenClaim := { program := "ytmgeheomokjimaa", sum := "aeb85c795fd81e9f484b8ebe527c4df8389684c635956e3d99de6e1b42692496", func := "oriel/oriellaw02.EditStands", spec := "editStands", inPlace := ["internal/abi.NoEscape"], unfollowed := true, recurses := true, apart := false }
def EditStandsSaid : Prop := editStandsRow.holds Try.pinned (OpenSpec.ofChange editStandsSpec)

/-- ITS FALSE NEIGHBOUR: 'it returns false'. Refute it at one input. -/
def editStandsWrong : ChangeSpec := { name := "editStands", fn := fun _ => fun
  | [d1, d2] => { results := [.lit (.bool false)], args := [d1, d2] }
  | _ => none }
def EditStandsWrongFalsely : Prop := editStandsRow.holds Try.pinned (OpenSpec.ofChange editStandsWrong)

/-- 'oriellaw02.EditThen': WHATEVER THE INPUT: true; the input reads as it did. -/
def editThenSpec : ChangeSpec := { name := "editThen", fn := fun _ => fun
  | [d1, d2, d3] => { results := [.lit (.bool true)], args := [d1, d2, d3] }
  | _ => none }
def editThenRow : OpenClaim := { program := "ytmgeheomokjimaa", sum := "aeb85c795fd81e9f484b8ebe527c4df8389684c635956e3d99de6e1b42692496", func := "oriel/oriellaw02.EditThen", spec := "editThen", inPlace := ["internal/abi.NoEscape"], unfollowed := true, recurses := true, apart := false }
def EditThenSaid : Prop := editThenRow.holds Try.pinned (OpenSpec.ofChange editThenSpec)

/-- ITS FALSE NEIGHBOUR: 'it returns false'. Refute it at one input. -/
def editThenWrong : ChangeSpec := { name := "editThen", fn := fun _ => fun
  | [d1, d2, d3] => { results := [.lit (.bool false)], args := [d1, d2, d3] }
  | _ => none }
def EditThenWrongFalsely : Prop := editThenRow.holds Try.pinned (OpenSpec.ofChange editThenWrong)

/-- 'oriellaw02.EditApplies': WHATEVER THE INPUT: true; the input reads as it did. -/
def editAppliesSpec : ChangeSpec := { name := "editApplies", fn := fun _ => fun
  | [d1, d2, d3] => { results := [.lit (.bool true)], args := [d1, d2, d3] }
  | _ => none }
def editAppliesRow : OpenClaim := { program := "ytmgeheomokjimaa", sum := "aeb85c795fd81e9f484b8ebe527c4df8389684c635956e3d99de6e1b42692496", func := "oriel/oriellaw02.EditApplies", spec := "editApplies", inPlace := ["internal/abi.NoEscape"], unfollowed := true, recurses := true, apart := false }
def EditAppliesSaid : Prop := editAppliesRow.holds Try.pinned (OpenSpec.ofChange editAppliesSpec)

/-- ITS FALSE NEIGHBOUR: 'it returns false'. Refute it at one input. -/
def editAppliesWrong : ChangeSpec := { name := "editApplies", fn := fun _ => fun
  | [d1, d2, d3] => { results := [.lit (.bool false)], args := [d1, d2, d3] }
  | _ => none }
def EditAppliesWrongFalsely : Prop := editAppliesRow.holds Try.pinned (OpenSpec.ofChange editAppliesWrong)

/-- 'oriellaw02.EditSorted': WHATEVER THE INPUT: true; the input reads as it did. -/
def editSortedSpec : ChangeSpec := { name := "editSorted", fn := fun _ => fun
  | [d1, d2] => { results := [.lit (.bool true)], args := [d1, d2] }
  | _ => none }
def editSortedRow : OpenClaim := { program := "ytmgeheomokjimaa", sum := "aeb85c795fd81e9f484b8ebe527c4df8389684c635956e3d99de6e1b42692496", func := "oriel/oriellaw02.EditSorted", spec := "editSorted", inPlace := ["internal/abi.NoEscape"], unfollowed := true, recurses := true, apart := false }
def EditSortedSaid : Prop := editSortedRow.holds Try.pinned (OpenSpec.ofChange editSortedSpec)

/-- ITS FALSE NEIGHBOUR: 'it returns false'. Refute it at one input. -/
def editSortedWrong : ChangeSpec := { name := "editSorted", fn := fun _ => fun
  | [d1, d2] => { results := [.lit (.bool false)], args := [d1, d2] }
  | _ => none }
def EditSortedWrongFalsely : Prop := editSortedRow.holds Try.pinned (OpenSpec.ofChange editSortedWrong)

/- THE SECOND FORM. 'bulk': how many values and letters a reading holds, each counted each time it is reached (what is shared counts as often as it is met; a slice's spare places count too). A statement '..UptoSaid' is the law's where the arguments, and the package variables that the reading takes, are together of bulk at most 1048576: NARROWER than '..Said'. Prove '..Said' where nothing that the law and all that it calls make is longer than what came in: it says more and counts as full. Else prove '..UptoSaid'. A law counts once. -/
mutual
def uptoBulk {H : Type} : DataW H → Nat
  | .lit (.string bytes) => bytes.length + 1
  | .lit _ => 1
  | .nil => 1
  | .ptr d => uptoBulk d + 1
  | .slice elems spare => uptoBulkAll elems + uptoBulkAll spare + 1
  | .agg parts => uptoBulkAll parts + 1
  | .iface _ d => uptoBulk d + 1
  | .map entries => uptoBulkEntries entries + 1
  | .held _ => 1
def uptoBulkAll {H : Type} : List (DataW H) → Nat
  | [] => 0
  | d :: r => uptoBulk d + uptoBulkAll r
def uptoBulkEntries {H : Type} : List (Lit × DataW H) → Nat
  | [] => 0
  | x :: r => uptoBulkEntry x + uptoBulkEntries r
def uptoBulkEntry {H : Type} : Lit × DataW H → Nat
  | (.string bytes, d) => bytes.length + uptoBulk d + 1
  | (_, d) => uptoBulk d + 1
 end
def uptoSmall : (H : Type) → List (DataW H) → Bool := fun _ ds => decide (uptoBulkAll ds ≤ 1048576)
def OpenSpec.upto (s : _root_.Go.ChangeSpec) : _root_.Go.OpenSpec := { _root_.Go.OpenSpec.ofChange s with cond := some uptoSmall }

/-- 'oriellaw02.EditKeeps', WHERE WHAT IT READS IS OF BULK AT MOST 1048576: true; the input reads as it did. -/
def editKeepsUptoRow : OpenClaim := { program := "ytmgeheomokjimaa", sum := "aeb85c795fd81e9f484b8ebe527c4df8389684c635956e3d99de6e1b42692496", func := "oriel/oriellaw02.EditKeeps", spec := "editKeeps", inPlace := ["internal/abi.NoEscape"], unfollowed := true, recurses := true, apart := false, narrowed := true }
def EditKeepsUptoSaid : Prop := editKeepsUptoRow.holds Try.pinned (OpenSpec.upto editKeepsSpec)

/-- 'oriellaw02.EditBack', WHERE WHAT IT READS IS OF BULK AT MOST 1048576: true; the input reads as it did. -/
def editBackUptoRow : OpenClaim := { program := "ytmgeheomokjimaa", sum := "aeb85c795fd81e9f484b8ebe527c4df8389684c635956e3d99de6e1b42692496", func := "oriel/oriellaw02.EditBack", spec := "editBack", inPlace := ["internal/abi.NoEscape"], unfollowed := true, recurses := true, apart := false, narrowed := true }
def EditBackUptoSaid : Prop := editBackUptoRow.holds Try.pinned (OpenSpec.upto editBackSpec)

/-- 'oriellaw02.EditStands', WHERE WHAT IT READS IS OF BULK AT MOST 1048576: true; the input reads as it did. -/
def editStandsUptoRow : OpenClaim := { program := "ytmgeheomokjimaa", sum := "aeb85c795fd81e9f484b8ebe527c4df8389684c635956e3d99de6e1b42692496", func := "oriel/oriellaw02.EditStands", spec := "editStands", inPlace := ["internal/abi.NoEscape"], unfollowed := true, recurses := true, apart := false, narrowed := true }
def EditStandsUptoSaid : Prop := editStandsUptoRow.holds Try.pinned (OpenSpec.upto editStandsSpec)

/-- 'oriellaw02.EditThen', WHERE WHAT IT READS IS OF BULK AT MOST 1048576: true; the input reads as it did. -/
def editThenUptoRow : OpenClaim := { program := "ytmgeheomokjimaa", sum := "aeb85c795fd81e9f484b8ebe527c4df8389684c635956e3d99de6e1b42692496", func := "oriel/oriellaw02.EditThen", spec := "editThen", inPlace := ["internal/abi.NoEscape"], unfollowed := true, recurses := true, apart := false, narrowed := true }
def EditThenUptoSaid : Prop := editThenUptoRow.holds Try.pinned (OpenSpec.upto editThenSpec)

/-- 'oriellaw02.EditApplies', WHERE WHAT IT READS IS OF BULK AT MOST 1048576: true; the input reads as it did. -/
def editAppliesUptoRow : OpenClaim := { program := "ytmgeheomokjimaa", sum := "aeb85c795fd81e9f484b8ebe527c4df8389684c635956e3d99de6e1b42692496", func := "oriel/oriellaw02.EditApplies", spec := "editApplies", inPlace := ["internal/abi.NoEscape"], unfollowed := true, recurses := true, apart := false, narrowed := true }
def EditAppliesUptoSaid : Prop := editAppliesUptoRow.holds Try.pinned (OpenSpec.upto editAppliesSpec)

/-- 'oriellaw02.EditSorted', WHERE WHAT IT READS IS OF BULK AT MOST 1048576: true; the input reads as it did. -/
def editSortedUptoRow : OpenClaim := { program := "ytmgeheomokjimaa", sum := "aeb85c795fd81e9f484b8ebe527c4df8389684c635956e3d99de6e1b42692496", func := "oriel/oriellaw02.EditSorted", spec := "editSorted", inPlace := ["internal/abi.NoEscape"], unfollowed := true, recurses := true, apart := false, narrowed := true }
def EditSortedUptoSaid : Prop := editSortedUptoRow.holds Try.pinned (OpenSpec.upto editSortedSpec)

end Rows
end Go.Proofs.Ytmgeheomokjimaa
