/-
  DERIVED. GIVEN WITH THE SEED: THE CARDS: each row of YtcfebfblmmbeaaaDoorRows.lean that lists a variable, with what it lists TIED to the program's text (the seventh form; the later family's looks); each row that meets fmt, with fmt's text TOLD by the authors' own Lean function (tested against real Go, not proved from fmt's source: count such statements apart). THE CARD IS WHAT COUNTS. Prove the row's statement (the work); the ties are given (YtcfebfblmmbeaaaDoorTie.lean); close each card by the builder's one call (the guide's Derived/Test/ToyasCard.lean, 'card_holds'). Laid BY PROGRAM, IN A SANDBOX (cutbox-door.mjs). By AI agents, Wed Nov 11 2026. No macro, syntax, notation, axiom, sorry.
-/
import Derived.Test.YtcfebfblmmbeaaaDoorRows
import GoSem.ClaimSeven
namespace Go.Proofs.YtcfebfblmmbeaaaDoor
namespace Rows

/-- THE TIED CARD OF 'voxellaw27.HistoryMatchesSpec'. -/
def historyMatchesSpecCard : Claim7 := { stood := { row := historyMatchesSpecRow, standIns := [], harness := (true, "fb0257670002c9fcfbd8e749d25a46fdc5c39f5e2c141037e55a14b5a1281339"), looks := false }, kinds := [], alts := [], laidByText := true, laidKinds := [.data], laidTests := true, laidLooks := .later }
def HistoryMatchesSpecCardSaid : Prop := Claim7.holds Tryd.pinned (.plain (OpenSpec.ofChange historyMatchesSpecSpec)) historyMatchesSpecCard

/-- THE TIED CARD OF 'voxellaw27.HistoryIsOrderFree'. -/
def historyIsOrderFreeCard : Claim7 := { stood := { row := historyIsOrderFreeRow, standIns := [], harness := (true, "fb0257670002c9fcfbd8e749d25a46fdc5c39f5e2c141037e55a14b5a1281339"), looks := false }, kinds := [], alts := [], laidByText := true, laidKinds := [.data], laidTests := true, laidLooks := .later }
def HistoryIsOrderFreeCardSaid : Prop := Claim7.holds Tryd.pinned (.plain (OpenSpec.ofChange historyIsOrderFreeSpec)) historyIsOrderFreeCard

/-- THE TIED CARD OF 'voxellaw27.HistoryIsOwn'. -/
def historyIsOwnCard : Claim7 := { stood := { row := historyIsOwnRow, standIns := [], harness := (true, "fb0257670002c9fcfbd8e749d25a46fdc5c39f5e2c141037e55a14b5a1281339"), looks := false }, kinds := [], alts := [], laidByText := true, laidKinds := [.data], laidTests := true, laidLooks := .later }
def HistoryIsOwnCardSaid : Prop := Claim7.holds Tryd.pinned (.plain (OpenSpec.ofChange historyIsOwnSpec)) historyIsOwnCard

/-- THE TIED CARD OF 'voxellaw27.HistoryUndoes'. -/
def historyUndoesCard : Claim7 := { stood := { row := historyUndoesRow, standIns := [], harness := (true, "fb0257670002c9fcfbd8e749d25a46fdc5c39f5e2c141037e55a14b5a1281339"), looks := false }, kinds := [], alts := [], laidByText := true, laidKinds := [.data], laidTests := true, laidLooks := .later }
def HistoryUndoesCardSaid : Prop := Claim7.holds Tryd.pinned (.plain (OpenSpec.ofChange historyUndoesSpec)) historyUndoesCard

/-- THE TIED CARD OF 'voxellaw27.HistoryForksStay'. -/
def historyForksStayCard : Claim7 := { stood := { row := historyForksStayRow, standIns := [], harness := (true, "fb0257670002c9fcfbd8e749d25a46fdc5c39f5e2c141037e55a14b5a1281339"), looks := false }, kinds := [], alts := [], laidByText := true, laidKinds := [.data], laidTests := true, laidLooks := .later }
def HistoryForksStayCardSaid : Prop := Claim7.holds Tryd.pinned (.plain (OpenSpec.ofChange historyForksStaySpec)) historyForksStayCard

/-- THE SECOND FORM's CARD OF 'voxellaw27.HistoryMatchesSpec'. -/
def historyMatchesSpecUptoCard : Claim7 := { stood := { row := historyMatchesSpecUptoRow, standIns := [], harness := (true, "fb0257670002c9fcfbd8e749d25a46fdc5c39f5e2c141037e55a14b5a1281339"), looks := false }, kinds := [], alts := [], laidByText := true, laidKinds := [.data], laidTests := true, laidLooks := .later }
def HistoryMatchesSpecUptoCardSaid : Prop := Claim7.holds Tryd.pinned (.plain (OpenSpec.upto historyMatchesSpecSpec)) historyMatchesSpecUptoCard

/-- THE SECOND FORM's CARD OF 'voxellaw27.HistoryIsOrderFree'. -/
def historyIsOrderFreeUptoCard : Claim7 := { stood := { row := historyIsOrderFreeUptoRow, standIns := [], harness := (true, "fb0257670002c9fcfbd8e749d25a46fdc5c39f5e2c141037e55a14b5a1281339"), looks := false }, kinds := [], alts := [], laidByText := true, laidKinds := [.data], laidTests := true, laidLooks := .later }
def HistoryIsOrderFreeUptoCardSaid : Prop := Claim7.holds Tryd.pinned (.plain (OpenSpec.upto historyIsOrderFreeSpec)) historyIsOrderFreeUptoCard

/-- THE SECOND FORM's CARD OF 'voxellaw27.HistoryIsOwn'. -/
def historyIsOwnUptoCard : Claim7 := { stood := { row := historyIsOwnUptoRow, standIns := [], harness := (true, "fb0257670002c9fcfbd8e749d25a46fdc5c39f5e2c141037e55a14b5a1281339"), looks := false }, kinds := [], alts := [], laidByText := true, laidKinds := [.data], laidTests := true, laidLooks := .later }
def HistoryIsOwnUptoCardSaid : Prop := Claim7.holds Tryd.pinned (.plain (OpenSpec.upto historyIsOwnSpec)) historyIsOwnUptoCard

/-- THE SECOND FORM's CARD OF 'voxellaw27.HistoryUndoes'. -/
def historyUndoesUptoCard : Claim7 := { stood := { row := historyUndoesUptoRow, standIns := [], harness := (true, "fb0257670002c9fcfbd8e749d25a46fdc5c39f5e2c141037e55a14b5a1281339"), looks := false }, kinds := [], alts := [], laidByText := true, laidKinds := [.data], laidTests := true, laidLooks := .later }
def HistoryUndoesUptoCardSaid : Prop := Claim7.holds Tryd.pinned (.plain (OpenSpec.upto historyUndoesSpec)) historyUndoesUptoCard

/-- THE SECOND FORM's CARD OF 'voxellaw27.HistoryForksStay'. -/
def historyForksStayUptoCard : Claim7 := { stood := { row := historyForksStayUptoRow, standIns := [], harness := (true, "fb0257670002c9fcfbd8e749d25a46fdc5c39f5e2c141037e55a14b5a1281339"), looks := false }, kinds := [], alts := [], laidByText := true, laidKinds := [.data], laidTests := true, laidLooks := .later }
def HistoryForksStayUptoCardSaid : Prop := Claim7.holds Tryd.pinned (.plain (OpenSpec.upto historyForksStaySpec)) historyForksStayUptoCard
end Rows
end Go.Proofs.YtcfebfblmmbeaaaDoor
