/-
  DERIVED. GIVEN WITH THE SEED: THE CARDS: each row of YtlinhgannajfpaaGreatDoorRows.lean that lists a variable, with what it lists TIED to the program's text (the seventh form; the later family's looks); each row that meets fmt, with fmt's text TOLD by the authors' own Lean function (tested against real Go, not proved from fmt's source: count such statements apart). THE CARD IS WHAT COUNTS. Prove the row's statement (the work); the ties are given (YtlinhgannajfpaaGreatDoorTie.lean); close each card by the builder's one call (the guide's Derived/Test/ToyasCard.lean, 'card_holds'). Laid BY PROGRAM, IN A SANDBOX (cutbox-door.mjs). By AI agents, Wed Nov 11 2026. No macro, syntax, notation, axiom, sorry.
-/
import Derived.Test.YtlinhgannajfpaaGreatDoorRows
import GoSem.ClaimSeven
namespace Go.Proofs.YtlinhgannajfpaaGreatDoor
namespace Rows

/-- THE TIED CARD OF 'voxellaw25.EditChecksAsSpecified'. -/
def editChecksAsSpecifiedCard : Claim7 := { stood := { row := editChecksAsSpecifiedRow, standIns := [], harness := (true, "a769ab1eeaf565b2fd047f032c2a9546009a5a384864db904818eda6230dc433"), looks := false }, kinds := [], alts := [], laidByText := true, laidKinds := [.data, .data, .data, .data], laidTests := true, laidLooks := .later }
def EditChecksAsSpecifiedCardSaid : Prop := Claim7.holds Tryz.pinned (.plain (OpenSpec.ofChange editChecksAsSpecifiedSpec)) editChecksAsSpecifiedCard

/-- THE TIED CARD OF 'voxellaw25.EditMatchesSpec'. -/
def editMatchesSpecCard : Claim7 := { stood := { row := editMatchesSpecRow, standIns := [], harness := (true, "a769ab1eeaf565b2fd047f032c2a9546009a5a384864db904818eda6230dc433"), looks := false }, kinds := [], alts := [], laidByText := true, laidKinds := [.data, .data, .data, .data], laidTests := true, laidLooks := .later }
def EditMatchesSpecCardSaid : Prop := Claim7.holds Tryz.pinned (.plain (OpenSpec.ofChange editMatchesSpecSpec)) editMatchesSpecCard

/-- THE TIED CARD OF 'voxellaw25.EditDecodesAsSpecified'. -/
def editDecodesAsSpecifiedCard : Claim7 := { stood := { row := editDecodesAsSpecifiedRow, standIns := [], harness := (true, "a769ab1eeaf565b2fd047f032c2a9546009a5a384864db904818eda6230dc433"), looks := false }, kinds := [], alts := [], laidByText := true, laidKinds := [.data, .data, .data, .data], laidTests := true, laidLooks := .later }
def EditDecodesAsSpecifiedCardSaid : Prop := Claim7.holds Tryz.pinned (.plain (OpenSpec.ofChange editDecodesAsSpecifiedSpec)) editDecodesAsSpecifiedCard

/-- THE TIED CARD OF 'voxellaw25.EditRoundTrip'. -/
def editRoundTripCard : Claim7 := { stood := { row := editRoundTripRow, standIns := [], harness := (true, "a769ab1eeaf565b2fd047f032c2a9546009a5a384864db904818eda6230dc433"), looks := false }, kinds := [], alts := [], laidByText := true, laidKinds := [.data, .data, .data, .data], laidTests := true, laidLooks := .later }
def EditRoundTripCardSaid : Prop := Claim7.holds Tryz.pinned (.plain (OpenSpec.ofChange editRoundTripSpec)) editRoundTripCard

/-- THE TIED CARD OF 'voxellaw25.EditOrder'. -/
def editOrderCard : Claim7 := { stood := { row := editOrderRow, standIns := [], harness := (true, "a769ab1eeaf565b2fd047f032c2a9546009a5a384864db904818eda6230dc433"), looks := false }, kinds := [], alts := [], laidByText := true, laidKinds := [.data, .data, .data, .data], laidTests := true, laidLooks := .later }
def EditOrderCardSaid : Prop := Claim7.holds Tryz.pinned (.plain (OpenSpec.ofChange editOrderSpec)) editOrderCard

/-- THE TIED CARD OF 'voxellaw25.EditGrows'. -/
def editGrowsCard : Claim7 := { stood := { row := editGrowsRow, standIns := [], harness := (true, "a769ab1eeaf565b2fd047f032c2a9546009a5a384864db904818eda6230dc433"), looks := false }, kinds := [], alts := [], laidByText := true, laidKinds := [.data, .data, .data, .data], laidTests := true, laidLooks := .later }
def EditGrowsCardSaid : Prop := Claim7.holds Tryz.pinned (.plain (OpenSpec.ofChange editGrowsSpec)) editGrowsCard

/-- THE TIED CARD OF 'voxellaw25.EditBounds'. -/
def editBoundsCard : Claim7 := { stood := { row := editBoundsRow, standIns := [], harness := (true, "a769ab1eeaf565b2fd047f032c2a9546009a5a384864db904818eda6230dc433"), looks := false }, kinds := [], alts := [], laidByText := true, laidKinds := [.data, .data, .data, .data], laidTests := true, laidLooks := .later }
def EditBoundsCardSaid : Prop := Claim7.holds Tryz.pinned (.plain (OpenSpec.ofChange editBoundsSpec)) editBoundsCard

/-- THE SECOND FORM's CARD OF 'voxellaw25.EditChecksAsSpecified'. -/
def editChecksAsSpecifiedUptoCard : Claim7 := { stood := { row := editChecksAsSpecifiedUptoRow, standIns := [], harness := (true, "a769ab1eeaf565b2fd047f032c2a9546009a5a384864db904818eda6230dc433"), looks := false }, kinds := [], alts := [], laidByText := true, laidKinds := [.data, .data, .data, .data], laidTests := true, laidLooks := .later }
def EditChecksAsSpecifiedUptoCardSaid : Prop := Claim7.holds Tryz.pinned (.plain (OpenSpec.upto editChecksAsSpecifiedSpec)) editChecksAsSpecifiedUptoCard

/-- THE SECOND FORM's CARD OF 'voxellaw25.EditMatchesSpec'. -/
def editMatchesSpecUptoCard : Claim7 := { stood := { row := editMatchesSpecUptoRow, standIns := [], harness := (true, "a769ab1eeaf565b2fd047f032c2a9546009a5a384864db904818eda6230dc433"), looks := false }, kinds := [], alts := [], laidByText := true, laidKinds := [.data, .data, .data, .data], laidTests := true, laidLooks := .later }
def EditMatchesSpecUptoCardSaid : Prop := Claim7.holds Tryz.pinned (.plain (OpenSpec.upto editMatchesSpecSpec)) editMatchesSpecUptoCard

/-- THE SECOND FORM's CARD OF 'voxellaw25.EditDecodesAsSpecified'. -/
def editDecodesAsSpecifiedUptoCard : Claim7 := { stood := { row := editDecodesAsSpecifiedUptoRow, standIns := [], harness := (true, "a769ab1eeaf565b2fd047f032c2a9546009a5a384864db904818eda6230dc433"), looks := false }, kinds := [], alts := [], laidByText := true, laidKinds := [.data, .data, .data, .data], laidTests := true, laidLooks := .later }
def EditDecodesAsSpecifiedUptoCardSaid : Prop := Claim7.holds Tryz.pinned (.plain (OpenSpec.upto editDecodesAsSpecifiedSpec)) editDecodesAsSpecifiedUptoCard

/-- THE SECOND FORM's CARD OF 'voxellaw25.EditRoundTrip'. -/
def editRoundTripUptoCard : Claim7 := { stood := { row := editRoundTripUptoRow, standIns := [], harness := (true, "a769ab1eeaf565b2fd047f032c2a9546009a5a384864db904818eda6230dc433"), looks := false }, kinds := [], alts := [], laidByText := true, laidKinds := [.data, .data, .data, .data], laidTests := true, laidLooks := .later }
def EditRoundTripUptoCardSaid : Prop := Claim7.holds Tryz.pinned (.plain (OpenSpec.upto editRoundTripSpec)) editRoundTripUptoCard

/-- THE SECOND FORM's CARD OF 'voxellaw25.EditOrder'. -/
def editOrderUptoCard : Claim7 := { stood := { row := editOrderUptoRow, standIns := [], harness := (true, "a769ab1eeaf565b2fd047f032c2a9546009a5a384864db904818eda6230dc433"), looks := false }, kinds := [], alts := [], laidByText := true, laidKinds := [.data, .data, .data, .data], laidTests := true, laidLooks := .later }
def EditOrderUptoCardSaid : Prop := Claim7.holds Tryz.pinned (.plain (OpenSpec.upto editOrderSpec)) editOrderUptoCard

/-- THE SECOND FORM's CARD OF 'voxellaw25.EditGrows'. -/
def editGrowsUptoCard : Claim7 := { stood := { row := editGrowsUptoRow, standIns := [], harness := (true, "a769ab1eeaf565b2fd047f032c2a9546009a5a384864db904818eda6230dc433"), looks := false }, kinds := [], alts := [], laidByText := true, laidKinds := [.data, .data, .data, .data], laidTests := true, laidLooks := .later }
def EditGrowsUptoCardSaid : Prop := Claim7.holds Tryz.pinned (.plain (OpenSpec.upto editGrowsSpec)) editGrowsUptoCard

/-- THE SECOND FORM's CARD OF 'voxellaw25.EditBounds'. -/
def editBoundsUptoCard : Claim7 := { stood := { row := editBoundsUptoRow, standIns := [], harness := (true, "a769ab1eeaf565b2fd047f032c2a9546009a5a384864db904818eda6230dc433"), looks := false }, kinds := [], alts := [], laidByText := true, laidKinds := [.data, .data, .data, .data], laidTests := true, laidLooks := .later }
def EditBoundsUptoCardSaid : Prop := Claim7.holds Tryz.pinned (.plain (OpenSpec.upto editBoundsSpec)) editBoundsUptoCard
end Rows
end Go.Proofs.YtlinhgannajfpaaGreatDoor
