/-
  DERIVED. GIVEN WITH THE SEED: THE CARDS: each row of YtoecbicdahbccaaGreatDoorRows.lean that lists a variable, with what it lists TIED to the program's text (the seventh form; the later family's looks); each row that meets fmt, with fmt's text TOLD by the authors' own Lean function (tested against real Go, not proved from fmt's source: count such statements apart). THE CARD IS WHAT COUNTS. Prove the row's statement (the work); the ties are given (YtoecbicdahbccaaGreatDoorTie.lean); close each card by the builder's one call (the guide's Derived/Test/ToyasCard.lean, 'card_holds'). Laid BY PROGRAM, IN A SANDBOX (cutbox-door.mjs). By AI agents, Wed Nov 11 2026. No macro, syntax, notation, axiom, sorry.
-/
import Derived.Test.YtoecbicdahbccaaGreatDoorRows
import GoSem.ClaimSeven
namespace Go.Proofs.YtoecbicdahbccaaGreatDoor
namespace Rows

/-- THE TIED CARD OF 'voxellaw26.ApplyMatchesSpec'. -/
def applyMatchesSpecCard : Claim7 := { stood := { row := applyMatchesSpecRow, standIns := [], harness := (true, "c1c39c0e13aae836995b3d092b73da415dbc8a73daaa580018df061b9f631cfc"), looks := false }, kinds := [], alts := [], laidByText := true, laidKinds := [.data, .data, .data], laidTests := true, laidLooks := .later }
def ApplyMatchesSpecCardSaid : Prop := Claim7.holds Tryz.pinned (.plain (OpenSpec.ofChange applyMatchesSpecSpec)) applyMatchesSpecCard

/-- THE TIED CARD OF 'voxellaw26.ApplyListsMatchSpec'. -/
def applyListsMatchSpecCard : Claim7 := { stood := { row := applyListsMatchSpecRow, standIns := [], harness := (true, "c1c39c0e13aae836995b3d092b73da415dbc8a73daaa580018df061b9f631cfc"), looks := false }, kinds := [], alts := [], laidByText := true, laidKinds := [.data, .data, .data], laidTests := true, laidLooks := .later }
def ApplyListsMatchSpecCardSaid : Prop := Claim7.holds Tryz.pinned (.plain (OpenSpec.ofChange applyListsMatchSpecSpec)) applyListsMatchSpecCard

/-- THE TIED CARD OF 'voxellaw26.ApplyStaysInBounds'. -/
def applyStaysInBoundsCard : Claim7 := { stood := { row := applyStaysInBoundsRow, standIns := [], harness := (true, "c1c39c0e13aae836995b3d092b73da415dbc8a73daaa580018df061b9f631cfc"), looks := false }, kinds := [], alts := [], laidByText := true, laidKinds := [.data, .data, .data], laidTests := true, laidLooks := .later }
def ApplyStaysInBoundsCardSaid : Prop := Claim7.holds Tryz.pinned (.plain (OpenSpec.ofChange applyStaysInBoundsSpec)) applyStaysInBoundsCard

/-- THE TIED CARD OF 'voxellaw26.ApplyTwice'. -/
def applyTwiceCard : Claim7 := { stood := { row := applyTwiceRow, standIns := [], harness := (true, "c1c39c0e13aae836995b3d092b73da415dbc8a73daaa580018df061b9f631cfc"), looks := false }, kinds := [], alts := [], laidByText := true, laidKinds := [.data, .data, .data], laidTests := true, laidLooks := .later }
def ApplyTwiceCardSaid : Prop := Claim7.holds Tryz.pinned (.plain (OpenSpec.ofChange applyTwiceSpec)) applyTwiceCard

/-- THE TIED CARD OF 'voxellaw26.ApplyReverts'. -/
def applyRevertsCard : Claim7 := { stood := { row := applyRevertsRow, standIns := [], harness := (true, "c1c39c0e13aae836995b3d092b73da415dbc8a73daaa580018df061b9f631cfc"), looks := false }, kinds := [], alts := [], laidByText := true, laidKinds := [.data, .data, .data], laidTests := true, laidLooks := .later }
def ApplyRevertsCardSaid : Prop := Claim7.holds Tryz.pinned (.plain (OpenSpec.ofChange applyRevertsSpec)) applyRevertsCard

/-- THE TIED CARD OF 'voxellaw26.ApplyFillIsFresh'. -/
def applyFillIsFreshCard : Claim7 := { stood := { row := applyFillIsFreshRow, standIns := [], harness := (true, "c1c39c0e13aae836995b3d092b73da415dbc8a73daaa580018df061b9f631cfc"), looks := false }, kinds := [], alts := [], laidByText := true, laidKinds := [.data, .data, .data], laidTests := true, laidLooks := .later }
def ApplyFillIsFreshCardSaid : Prop := Claim7.holds Tryz.pinned (.plain (OpenSpec.ofChange applyFillIsFreshSpec)) applyFillIsFreshCard

/-- THE SECOND FORM's CARD OF 'voxellaw26.ApplyMatchesSpec'. -/
def applyMatchesSpecUptoCard : Claim7 := { stood := { row := applyMatchesSpecUptoRow, standIns := [], harness := (true, "c1c39c0e13aae836995b3d092b73da415dbc8a73daaa580018df061b9f631cfc"), looks := false }, kinds := [], alts := [], laidByText := true, laidKinds := [.data, .data, .data], laidTests := true, laidLooks := .later }
def ApplyMatchesSpecUptoCardSaid : Prop := Claim7.holds Tryz.pinned (.plain (OpenSpec.upto applyMatchesSpecSpec)) applyMatchesSpecUptoCard

/-- THE SECOND FORM's CARD OF 'voxellaw26.ApplyListsMatchSpec'. -/
def applyListsMatchSpecUptoCard : Claim7 := { stood := { row := applyListsMatchSpecUptoRow, standIns := [], harness := (true, "c1c39c0e13aae836995b3d092b73da415dbc8a73daaa580018df061b9f631cfc"), looks := false }, kinds := [], alts := [], laidByText := true, laidKinds := [.data, .data, .data], laidTests := true, laidLooks := .later }
def ApplyListsMatchSpecUptoCardSaid : Prop := Claim7.holds Tryz.pinned (.plain (OpenSpec.upto applyListsMatchSpecSpec)) applyListsMatchSpecUptoCard

/-- THE SECOND FORM's CARD OF 'voxellaw26.ApplyStaysInBounds'. -/
def applyStaysInBoundsUptoCard : Claim7 := { stood := { row := applyStaysInBoundsUptoRow, standIns := [], harness := (true, "c1c39c0e13aae836995b3d092b73da415dbc8a73daaa580018df061b9f631cfc"), looks := false }, kinds := [], alts := [], laidByText := true, laidKinds := [.data, .data, .data], laidTests := true, laidLooks := .later }
def ApplyStaysInBoundsUptoCardSaid : Prop := Claim7.holds Tryz.pinned (.plain (OpenSpec.upto applyStaysInBoundsSpec)) applyStaysInBoundsUptoCard

/-- THE SECOND FORM's CARD OF 'voxellaw26.ApplyTwice'. -/
def applyTwiceUptoCard : Claim7 := { stood := { row := applyTwiceUptoRow, standIns := [], harness := (true, "c1c39c0e13aae836995b3d092b73da415dbc8a73daaa580018df061b9f631cfc"), looks := false }, kinds := [], alts := [], laidByText := true, laidKinds := [.data, .data, .data], laidTests := true, laidLooks := .later }
def ApplyTwiceUptoCardSaid : Prop := Claim7.holds Tryz.pinned (.plain (OpenSpec.upto applyTwiceSpec)) applyTwiceUptoCard

/-- THE SECOND FORM's CARD OF 'voxellaw26.ApplyReverts'. -/
def applyRevertsUptoCard : Claim7 := { stood := { row := applyRevertsUptoRow, standIns := [], harness := (true, "c1c39c0e13aae836995b3d092b73da415dbc8a73daaa580018df061b9f631cfc"), looks := false }, kinds := [], alts := [], laidByText := true, laidKinds := [.data, .data, .data], laidTests := true, laidLooks := .later }
def ApplyRevertsUptoCardSaid : Prop := Claim7.holds Tryz.pinned (.plain (OpenSpec.upto applyRevertsSpec)) applyRevertsUptoCard

/-- THE SECOND FORM's CARD OF 'voxellaw26.ApplyFillIsFresh'. -/
def applyFillIsFreshUptoCard : Claim7 := { stood := { row := applyFillIsFreshUptoRow, standIns := [], harness := (true, "c1c39c0e13aae836995b3d092b73da415dbc8a73daaa580018df061b9f631cfc"), looks := false }, kinds := [], alts := [], laidByText := true, laidKinds := [.data, .data, .data], laidTests := true, laidLooks := .later }
def ApplyFillIsFreshUptoCardSaid : Prop := Claim7.holds Tryz.pinned (.plain (OpenSpec.upto applyFillIsFreshSpec)) applyFillIsFreshUptoCard
end Rows
end Go.Proofs.YtoecbicdahbccaaGreatDoor
