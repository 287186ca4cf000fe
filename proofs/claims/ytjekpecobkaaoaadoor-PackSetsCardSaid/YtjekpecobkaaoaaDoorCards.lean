/-
  DERIVED. GIVEN WITH THE SEED: THE CARDS: each row of YtjekpecobkaaoaaDoorRows.lean that lists a variable, with what it lists TIED to the program's text (the seventh form; the later family's looks); each row that meets fmt, with fmt's text TOLD by the authors' own Lean function (tested against real Go, not proved from fmt's source: count such statements apart). THE CARD IS WHAT COUNTS. Prove the row's statement (the work); the ties are given (YtjekpecobkaaoaaDoorTie.lean); close each card by the builder's one call (the guide's Derived/Test/ToyasCard.lean, 'card_holds'). Laid BY PROGRAM, IN A SANDBOX (cutbox-door.mjs). By AI agents, Wed Nov 11 2026. No macro, syntax, notation, axiom, sorry.
-/
import Derived.Test.YtjekpecobkaaoaaDoorRows
import GoSem.ClaimSeven
namespace Go.Proofs.YtjekpecobkaaoaaDoor
namespace Rows

/-- THE TIED CARD OF 'oriellaw03.PackPlaces'. -/
def packPlacesCard : Claim7 := { stood := { row := packPlacesRow, standIns := [], harness := (true, "550ab50f4ba11e813e00f681ecca03a23c25699c4db99e18aaf9650db3742661"), looks := false }, kinds := [], alts := [], laidByText := true, laidKinds := [.data], laidTests := true, laidLooks := .later }
def PackPlacesCardSaid : Prop := Claim7.holds Tryd.pinned (.plain (OpenSpec.ofChange packPlacesSpec)) packPlacesCard

/-- THE TIED CARD OF 'oriellaw03.PackHashes'. -/
def packHashesCard : Claim7 := { stood := { row := packHashesRow, standIns := [], harness := (true, "550ab50f4ba11e813e00f681ecca03a23c25699c4db99e18aaf9650db3742661"), looks := false }, kinds := [], alts := [], laidByText := true, laidKinds := [.data], laidTests := true, laidLooks := .later }
def PackHashesCardSaid : Prop := Claim7.holds Tryd.pinned (.plain (OpenSpec.ofChange packHashesSpec)) packHashesCard

/-- THE TIED CARD OF 'oriellaw03.PackNumbers'. -/
def packNumbersCard : Claim7 := { stood := { row := packNumbersRow, standIns := [], harness := (true, "550ab50f4ba11e813e00f681ecca03a23c25699c4db99e18aaf9650db3742661"), looks := false }, kinds := [], alts := [], laidByText := true, laidKinds := [.data], laidTests := true, laidLooks := .later }
def PackNumbersCardSaid : Prop := Claim7.holds Tryd.pinned (.plain (OpenSpec.ofChange packNumbersSpec)) packNumbersCard

/-- THE TIED CARD OF 'oriellaw03.PackLaws'. -/
def packLawsCard : Claim7 := { stood := { row := packLawsRow, standIns := [], harness := (true, "550ab50f4ba11e813e00f681ecca03a23c25699c4db99e18aaf9650db3742661"), looks := false }, kinds := [], alts := [], laidByText := true, laidKinds := [.data], laidTests := true, laidLooks := .later }
def PackLawsCardSaid : Prop := Claim7.holds Tryd.pinned (.plain (OpenSpec.ofChange packLawsSpec)) packLawsCard

/-- THE TIED CARD OF 'oriellaw03.PackSets'. -/
def packSetsCard : Claim7 := { stood := { row := packSetsRow, standIns := [], harness := (true, "550ab50f4ba11e813e00f681ecca03a23c25699c4db99e18aaf9650db3742661"), looks := false }, kinds := [], alts := [], laidByText := true, laidKinds := [.data], laidTests := true, laidLooks := .later }
def PackSetsCardSaid : Prop := Claim7.holds Tryd.pinned (.plain (OpenSpec.ofChange packSetsSpec)) packSetsCard

/-- THE TIED CARD OF 'oriellaw03.PackBack'. -/
def packBackCard : Claim7 := { stood := { row := packBackRow, standIns := [], harness := (true, "550ab50f4ba11e813e00f681ecca03a23c25699c4db99e18aaf9650db3742661"), looks := false }, kinds := [], alts := [], laidByText := true, laidKinds := [.data], laidTests := true, laidLooks := .later }
def PackBackCardSaid : Prop := Claim7.holds Tryd.pinned (.plain (OpenSpec.ofChange packBackSpec)) packBackCard

/-- THE TIED CARD OF 'oriellaw03.PackLists'. -/
def packListsCard : Claim7 := { stood := { row := packListsRow, standIns := [], harness := (true, "550ab50f4ba11e813e00f681ecca03a23c25699c4db99e18aaf9650db3742661"), looks := false }, kinds := [], alts := [], laidByText := true, laidKinds := [.data], laidTests := true, laidLooks := .later }
def PackListsCardSaid : Prop := Claim7.holds Tryd.pinned (.plain (OpenSpec.ofChange packListsSpec)) packListsCard

/-- THE SECOND FORM's CARD OF 'oriellaw03.PackPlaces'. -/
def packPlacesUptoCard : Claim7 := { stood := { row := packPlacesUptoRow, standIns := [], harness := (true, "550ab50f4ba11e813e00f681ecca03a23c25699c4db99e18aaf9650db3742661"), looks := false }, kinds := [], alts := [], laidByText := true, laidKinds := [.data], laidTests := true, laidLooks := .later }
def PackPlacesUptoCardSaid : Prop := Claim7.holds Tryd.pinned (.plain (OpenSpec.upto packPlacesSpec)) packPlacesUptoCard

/-- THE SECOND FORM's CARD OF 'oriellaw03.PackHashes'. -/
def packHashesUptoCard : Claim7 := { stood := { row := packHashesUptoRow, standIns := [], harness := (true, "550ab50f4ba11e813e00f681ecca03a23c25699c4db99e18aaf9650db3742661"), looks := false }, kinds := [], alts := [], laidByText := true, laidKinds := [.data], laidTests := true, laidLooks := .later }
def PackHashesUptoCardSaid : Prop := Claim7.holds Tryd.pinned (.plain (OpenSpec.upto packHashesSpec)) packHashesUptoCard

/-- THE SECOND FORM's CARD OF 'oriellaw03.PackNumbers'. -/
def packNumbersUptoCard : Claim7 := { stood := { row := packNumbersUptoRow, standIns := [], harness := (true, "550ab50f4ba11e813e00f681ecca03a23c25699c4db99e18aaf9650db3742661"), looks := false }, kinds := [], alts := [], laidByText := true, laidKinds := [.data], laidTests := true, laidLooks := .later }
def PackNumbersUptoCardSaid : Prop := Claim7.holds Tryd.pinned (.plain (OpenSpec.upto packNumbersSpec)) packNumbersUptoCard

/-- THE SECOND FORM's CARD OF 'oriellaw03.PackLaws'. -/
def packLawsUptoCard : Claim7 := { stood := { row := packLawsUptoRow, standIns := [], harness := (true, "550ab50f4ba11e813e00f681ecca03a23c25699c4db99e18aaf9650db3742661"), looks := false }, kinds := [], alts := [], laidByText := true, laidKinds := [.data], laidTests := true, laidLooks := .later }
def PackLawsUptoCardSaid : Prop := Claim7.holds Tryd.pinned (.plain (OpenSpec.upto packLawsSpec)) packLawsUptoCard

/-- THE SECOND FORM's CARD OF 'oriellaw03.PackSets'. -/
def packSetsUptoCard : Claim7 := { stood := { row := packSetsUptoRow, standIns := [], harness := (true, "550ab50f4ba11e813e00f681ecca03a23c25699c4db99e18aaf9650db3742661"), looks := false }, kinds := [], alts := [], laidByText := true, laidKinds := [.data], laidTests := true, laidLooks := .later }
def PackSetsUptoCardSaid : Prop := Claim7.holds Tryd.pinned (.plain (OpenSpec.upto packSetsSpec)) packSetsUptoCard

/-- THE SECOND FORM's CARD OF 'oriellaw03.PackBack'. -/
def packBackUptoCard : Claim7 := { stood := { row := packBackUptoRow, standIns := [], harness := (true, "550ab50f4ba11e813e00f681ecca03a23c25699c4db99e18aaf9650db3742661"), looks := false }, kinds := [], alts := [], laidByText := true, laidKinds := [.data], laidTests := true, laidLooks := .later }
def PackBackUptoCardSaid : Prop := Claim7.holds Tryd.pinned (.plain (OpenSpec.upto packBackSpec)) packBackUptoCard

/-- THE SECOND FORM's CARD OF 'oriellaw03.PackLists'. -/
def packListsUptoCard : Claim7 := { stood := { row := packListsUptoRow, standIns := [], harness := (true, "550ab50f4ba11e813e00f681ecca03a23c25699c4db99e18aaf9650db3742661"), looks := false }, kinds := [], alts := [], laidByText := true, laidKinds := [.data], laidTests := true, laidLooks := .later }
def PackListsUptoCardSaid : Prop := Claim7.holds Tryd.pinned (.plain (OpenSpec.upto packListsSpec)) packListsUptoCard
end Rows
end Go.Proofs.YtjekpecobkaaoaaDoor
