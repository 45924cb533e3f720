/-
  DERIVED. GIVEN WITH THE SEED: THE CARDS: each row of YtelhefjikdoihaaDoorRows.lean that lists a variable, with what it lists TIED to the program's text (the seventh form; the later family's looks); each row that meets fmt, with fmt's text TOLD by the authors' own Lean function (tested against real Go, not proved from fmt's source: count such statements apart). THE CARD IS WHAT COUNTS. Prove the row's statement (the work); the ties are given (YtelhefjikdoihaaDoorTie.lean); close each card by the builder's one call (the guide's Derived/Test/ToyasCard.lean, 'card_holds'). Laid BY PROGRAM, IN A SANDBOX (cutbox-door.mjs). By AI agents, Wed Nov 11 2026. No macro, syntax, notation, axiom, sorry.
-/
import Derived.Test.YtelhefjikdoihaaDoorRows
import GoSem.ClaimSeven
namespace Go.Proofs.YtelhefjikdoihaaDoor
namespace Rows

/-- THE TIED CARD OF 'voxellaw21.FillMatchesSpec'. -/
def fillMatchesSpecCard : Claim7 := { stood := { row := fillMatchesSpecRow, standIns := [], harness := (true, "8f19ad65031d9338238d772a44764a272484cf50f674424f9c72660ad86670ea"), looks := false }, kinds := [], alts := [], laidByText := true, laidKinds := [.data], laidTests := true, laidLooks := .later }
def FillMatchesSpecCardSaid : Prop := Claim7.holds Tryd.pinned (.plain (OpenSpec.ofChange fillMatchesSpecSpec)) fillMatchesSpecCard

/-- THE TIED CARD OF 'voxellaw21.FillSetsMatchSpec'. -/
def fillSetsMatchSpecCard : Claim7 := { stood := { row := fillSetsMatchSpecRow, standIns := [], harness := (true, "8f19ad65031d9338238d772a44764a272484cf50f674424f9c72660ad86670ea"), looks := false }, kinds := [], alts := [], laidByText := true, laidKinds := [.data], laidTests := true, laidLooks := .later }
def FillSetsMatchSpecCardSaid : Prop := Claim7.holds Tryd.pinned (.plain (OpenSpec.ofChange fillSetsMatchSpecSpec)) fillSetsMatchSpecCard

/-- THE TIED CARD OF 'voxellaw21.FillAsksLittle'. -/
def fillAsksLittleCard : Claim7 := { stood := { row := fillAsksLittleRow, standIns := [], harness := (true, "8f19ad65031d9338238d772a44764a272484cf50f674424f9c72660ad86670ea"), looks := false }, kinds := [], alts := [], laidByText := true, laidKinds := [.data], laidTests := true, laidLooks := .later }
def FillAsksLittleCardSaid : Prop := Claim7.holds Tryd.pinned (.plain (OpenSpec.ofChange fillAsksLittleSpec)) fillAsksLittleCard

/-- THE TIED CARD OF 'voxellaw21.FillRegions'. -/
def fillRegionsCard : Claim7 := { stood := { row := fillRegionsRow, standIns := [], harness := (true, "8f19ad65031d9338238d772a44764a272484cf50f674424f9c72660ad86670ea"), looks := false }, kinds := [], alts := [], laidByText := true, laidKinds := [.data], laidTests := true, laidLooks := .later }
def FillRegionsCardSaid : Prop := Claim7.holds Tryd.pinned (.plain (OpenSpec.ofChange fillRegionsSpec)) fillRegionsCard

/-- THE TIED CARD OF 'voxellaw21.FillIsCutOff'. -/
def fillIsCutOffCard : Claim7 := { stood := { row := fillIsCutOffRow, standIns := [], harness := (true, "8f19ad65031d9338238d772a44764a272484cf50f674424f9c72660ad86670ea"), looks := false }, kinds := [], alts := [], laidByText := true, laidKinds := [.data], laidTests := true, laidLooks := .later }
def FillIsCutOffCardSaid : Prop := Claim7.holds Tryd.pinned (.plain (OpenSpec.ofChange fillIsCutOffSpec)) fillIsCutOffCard

/-- THE SECOND FORM's CARD OF 'voxellaw21.FillMatchesSpec'. -/
def fillMatchesSpecUptoCard : Claim7 := { stood := { row := fillMatchesSpecUptoRow, standIns := [], harness := (true, "8f19ad65031d9338238d772a44764a272484cf50f674424f9c72660ad86670ea"), looks := false }, kinds := [], alts := [], laidByText := true, laidKinds := [.data], laidTests := true, laidLooks := .later }
def FillMatchesSpecUptoCardSaid : Prop := Claim7.holds Tryd.pinned (.plain (OpenSpec.upto fillMatchesSpecSpec)) fillMatchesSpecUptoCard

/-- THE SECOND FORM's CARD OF 'voxellaw21.FillSetsMatchSpec'. -/
def fillSetsMatchSpecUptoCard : Claim7 := { stood := { row := fillSetsMatchSpecUptoRow, standIns := [], harness := (true, "8f19ad65031d9338238d772a44764a272484cf50f674424f9c72660ad86670ea"), looks := false }, kinds := [], alts := [], laidByText := true, laidKinds := [.data], laidTests := true, laidLooks := .later }
def FillSetsMatchSpecUptoCardSaid : Prop := Claim7.holds Tryd.pinned (.plain (OpenSpec.upto fillSetsMatchSpecSpec)) fillSetsMatchSpecUptoCard

/-- THE SECOND FORM's CARD OF 'voxellaw21.FillAsksLittle'. -/
def fillAsksLittleUptoCard : Claim7 := { stood := { row := fillAsksLittleUptoRow, standIns := [], harness := (true, "8f19ad65031d9338238d772a44764a272484cf50f674424f9c72660ad86670ea"), looks := false }, kinds := [], alts := [], laidByText := true, laidKinds := [.data], laidTests := true, laidLooks := .later }
def FillAsksLittleUptoCardSaid : Prop := Claim7.holds Tryd.pinned (.plain (OpenSpec.upto fillAsksLittleSpec)) fillAsksLittleUptoCard

/-- THE SECOND FORM's CARD OF 'voxellaw21.FillRegions'. -/
def fillRegionsUptoCard : Claim7 := { stood := { row := fillRegionsUptoRow, standIns := [], harness := (true, "8f19ad65031d9338238d772a44764a272484cf50f674424f9c72660ad86670ea"), looks := false }, kinds := [], alts := [], laidByText := true, laidKinds := [.data], laidTests := true, laidLooks := .later }
def FillRegionsUptoCardSaid : Prop := Claim7.holds Tryd.pinned (.plain (OpenSpec.upto fillRegionsSpec)) fillRegionsUptoCard

/-- THE SECOND FORM's CARD OF 'voxellaw21.FillIsCutOff'. -/
def fillIsCutOffUptoCard : Claim7 := { stood := { row := fillIsCutOffUptoRow, standIns := [], harness := (true, "8f19ad65031d9338238d772a44764a272484cf50f674424f9c72660ad86670ea"), looks := false }, kinds := [], alts := [], laidByText := true, laidKinds := [.data], laidTests := true, laidLooks := .later }
def FillIsCutOffUptoCardSaid : Prop := Claim7.holds Tryd.pinned (.plain (OpenSpec.upto fillIsCutOffSpec)) fillIsCutOffUptoCard
end Rows
end Go.Proofs.YtelhefjikdoihaaDoor
