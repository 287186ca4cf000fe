/-
  DERIVED. GIVEN WITH THE SEED: THE CARDS: each row of YtnemooemifbbhaaDoorRows.lean that lists a variable, with what it lists TIED to the program's text (the seventh form; the later family's looks); each row that meets fmt, with fmt's text TOLD by the authors' own Lean function (tested against real Go, not proved from fmt's source: count such statements apart). THE CARD IS WHAT COUNTS. Prove the row's statement (the work); the ties are given (YtnemooemifbbhaaDoorTie.lean); close each card by the builder's one call (the guide's Derived/Test/ToyasCard.lean, 'card_holds'). Laid BY PROGRAM, IN A SANDBOX (cutbox-door.mjs). By AI agents, Wed Nov 11 2026. No macro, syntax, notation, axiom, sorry.
-/
import Derived.Test.YtnemooemifbbhaaDoorRows
import GoSem.ClaimSeven
namespace Go.Proofs.YtnemooemifbbhaaDoor
namespace Rows

/-- THE TIED CARD OF 'oriellaw27.DiffMakes'. -/
def diffMakesCard : Claim7 := { stood := { row := diffMakesRow, standIns := [], harness := (true, "69d603d688ed430e7cc85bb314a20dd0d620b7a34c77cc2d38fd1d4beea5bdfd"), looks := false }, kinds := [], alts := [], laidByText := true, laidKinds := [.data, .pinned], laidTests := true, laidLooks := .later }
def DiffMakesCardSaid : Prop := Claim7.holds Tryd.pinned (.plain (OpenSpec.ofChange diffMakesSpec)) diffMakesCard

/-- THE TIED CARD OF 'oriellaw27.DiffLeast'. -/
def diffLeastCard : Claim7 := { stood := { row := diffLeastRow, standIns := [], harness := (true, "69d603d688ed430e7cc85bb314a20dd0d620b7a34c77cc2d38fd1d4beea5bdfd"), looks := false }, kinds := [], alts := [], laidByText := true, laidKinds := [.data, .pinned], laidTests := true, laidLooks := .later }
def DiffLeastCardSaid : Prop := Claim7.holds Tryd.pinned (.plain (OpenSpec.ofChange diffLeastSpec)) diffLeastCard

/-- THE TIED CARD OF 'oriellaw27.DiffFiles'. -/
def diffFilesCard : Claim7 := { stood := { row := diffFilesRow, standIns := [], harness := (true, "69d603d688ed430e7cc85bb314a20dd0d620b7a34c77cc2d38fd1d4beea5bdfd"), looks := false }, kinds := [], alts := [], laidByText := true, laidKinds := [.data, .pinned], laidTests := true, laidLooks := .later }
def DiffFilesCardSaid : Prop := Claim7.holds Tryd.pinned (.plain (OpenSpec.ofChange diffFilesSpec)) diffFilesCard

/-- THE TIED CARD OF 'oriellaw27.DiffDoes'. -/
def diffDoesCard : Claim7 := { stood := { row := diffDoesRow, standIns := [], harness := (true, "69d603d688ed430e7cc85bb314a20dd0d620b7a34c77cc2d38fd1d4beea5bdfd"), looks := false }, kinds := [], alts := [], laidByText := true, laidKinds := [.data, .pinned], laidTests := true, laidLooks := .later }
def DiffDoesCardSaid : Prop := Claim7.holds Tryd.pinned (.plain (OpenSpec.ofChange diffDoesSpec)) diffDoesCard

/-- THE TIED CARD OF 'oriellaw27.DiffTells'. -/
def diffTellsCard : Claim7 := { stood := { row := diffTellsRow, standIns := [], harness := (true, "69d603d688ed430e7cc85bb314a20dd0d620b7a34c77cc2d38fd1d4beea5bdfd"), looks := false }, kinds := [], alts := [], laidByText := true, laidKinds := [.data, .data, .data, .data, .pinned], laidTests := true, laidLooks := .later }
def DiffTellsCardSaid : Prop := Claim7.holds Tryd.pinned (.plain (OpenSpec.ofChange diffTellsSpec)) diffTellsCard

/-- THE SECOND FORM's CARD OF 'oriellaw27.DiffMakes'. -/
def diffMakesUptoCard : Claim7 := { stood := { row := diffMakesUptoRow, standIns := [], harness := (true, "69d603d688ed430e7cc85bb314a20dd0d620b7a34c77cc2d38fd1d4beea5bdfd"), looks := false }, kinds := [], alts := [], laidByText := true, laidKinds := [.data, .pinned], laidTests := true, laidLooks := .later }
def DiffMakesUptoCardSaid : Prop := Claim7.holds Tryd.pinned (.plain (OpenSpec.upto diffMakesSpec)) diffMakesUptoCard

/-- THE SECOND FORM's CARD OF 'oriellaw27.DiffLeast'. -/
def diffLeastUptoCard : Claim7 := { stood := { row := diffLeastUptoRow, standIns := [], harness := (true, "69d603d688ed430e7cc85bb314a20dd0d620b7a34c77cc2d38fd1d4beea5bdfd"), looks := false }, kinds := [], alts := [], laidByText := true, laidKinds := [.data, .pinned], laidTests := true, laidLooks := .later }
def DiffLeastUptoCardSaid : Prop := Claim7.holds Tryd.pinned (.plain (OpenSpec.upto diffLeastSpec)) diffLeastUptoCard

/-- THE SECOND FORM's CARD OF 'oriellaw27.DiffFiles'. -/
def diffFilesUptoCard : Claim7 := { stood := { row := diffFilesUptoRow, standIns := [], harness := (true, "69d603d688ed430e7cc85bb314a20dd0d620b7a34c77cc2d38fd1d4beea5bdfd"), looks := false }, kinds := [], alts := [], laidByText := true, laidKinds := [.data, .pinned], laidTests := true, laidLooks := .later }
def DiffFilesUptoCardSaid : Prop := Claim7.holds Tryd.pinned (.plain (OpenSpec.upto diffFilesSpec)) diffFilesUptoCard

/-- THE SECOND FORM's CARD OF 'oriellaw27.DiffDoes'. -/
def diffDoesUptoCard : Claim7 := { stood := { row := diffDoesUptoRow, standIns := [], harness := (true, "69d603d688ed430e7cc85bb314a20dd0d620b7a34c77cc2d38fd1d4beea5bdfd"), looks := false }, kinds := [], alts := [], laidByText := true, laidKinds := [.data, .pinned], laidTests := true, laidLooks := .later }
def DiffDoesUptoCardSaid : Prop := Claim7.holds Tryd.pinned (.plain (OpenSpec.upto diffDoesSpec)) diffDoesUptoCard

/-- THE SECOND FORM's CARD OF 'oriellaw27.DiffTells'. -/
def diffTellsUptoCard : Claim7 := { stood := { row := diffTellsUptoRow, standIns := [], harness := (true, "69d603d688ed430e7cc85bb314a20dd0d620b7a34c77cc2d38fd1d4beea5bdfd"), looks := false }, kinds := [], alts := [], laidByText := true, laidKinds := [.data, .data, .data, .data, .pinned], laidTests := true, laidLooks := .later }
def DiffTellsUptoCardSaid : Prop := Claim7.holds Tryd.pinned (.plain (OpenSpec.upto diffTellsSpec)) diffTellsUptoCard
end Rows
end Go.Proofs.YtnemooemifbbhaaDoor
