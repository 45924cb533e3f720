/-
  DERIVED. GIVEN WITH THE SEED: THE CARDS: each row of YtjceebpafnnffaaDoorRows.lean that lists a variable, with what it lists TIED to the program's text (the seventh form; the later family's looks); each row that meets fmt, with fmt's text TOLD by the authors' own Lean function (tested against real Go, not proved from fmt's source: count such statements apart). THE CARD IS WHAT COUNTS. Prove the row's statement (the work); the ties are given (YtjceebpafnnffaaDoorTie.lean); close each card by the builder's one call (the guide's Derived/Test/ToyasCard.lean, 'card_holds'). Laid BY PROGRAM, IN A SANDBOX (cutbox-door.mjs). By AI agents, Wed Nov 11 2026. No macro, syntax, notation, axiom, sorry.
-/
import Derived.Test.YtjceebpafnnffaaDoorRows
import GoSem.ClaimSeven
namespace Go.Proofs.YtjceebpafnnffaaDoor
namespace Rows

/-- THE TIED CARD OF 'voxellaw28.LockMatchesSpec'. -/
def lockMatchesSpecCard : Claim7 := { stood := { row := lockMatchesSpecRow, standIns := [], harness := (true, "98ff935e6427d944ccdcba75ce9691858f3659fa04a5f79d174bd579fa457f57"), looks := false }, kinds := [], alts := [], laidByText := true, laidKinds := [.data, .data], laidTests := true, laidLooks := .later }
def LockMatchesSpecCardSaid : Prop := Claim7.holds Tryd.pinned (.plain (OpenSpec.ofChange lockMatchesSpecSpec)) lockMatchesSpecCard

/-- THE TIED CARD OF 'voxellaw28.LockValidMatchesSpec'. -/
def lockValidMatchesSpecCard : Claim7 := { stood := { row := lockValidMatchesSpecRow, standIns := [], harness := (true, "98ff935e6427d944ccdcba75ce9691858f3659fa04a5f79d174bd579fa457f57"), looks := false }, kinds := [], alts := [], laidByText := true, laidKinds := [.data, .data], laidTests := true, laidLooks := .later }
def LockValidMatchesSpecCardSaid : Prop := Claim7.holds Tryd.pinned (.plain (OpenSpec.ofChange lockValidMatchesSpecSpec)) lockValidMatchesSpecCard

/-- THE TIED CARD OF 'voxellaw28.LockStaysValid'. -/
def lockStaysValidCard : Claim7 := { stood := { row := lockStaysValidRow, standIns := [], harness := (true, "98ff935e6427d944ccdcba75ce9691858f3659fa04a5f79d174bd579fa457f57"), looks := false }, kinds := [], alts := [], laidByText := true, laidKinds := [.data, .data], laidTests := true, laidLooks := .later }
def LockStaysValidCardSaid : Prop := Claim7.holds Tryd.pinned (.plain (OpenSpec.ofChange lockStaysValidSpec)) lockStaysValidCard

/-- THE TIED CARD OF 'voxellaw28.LockBlocksOthers'. -/
def lockBlocksOthersCard : Claim7 := { stood := { row := lockBlocksOthersRow, standIns := [], harness := (true, "98ff935e6427d944ccdcba75ce9691858f3659fa04a5f79d174bd579fa457f57"), looks := false }, kinds := [], alts := [], laidByText := true, laidKinds := [.data, .data], laidTests := true, laidLooks := .later }
def LockBlocksOthersCardSaid : Prop := Claim7.holds Tryd.pinned (.plain (OpenSpec.ofChange lockBlocksOthersSpec)) lockBlocksOthersCard

/-- THE TIED CARD OF 'voxellaw28.LockFrees'. -/
def lockFreesCard : Claim7 := { stood := { row := lockFreesRow, standIns := [], harness := (true, "98ff935e6427d944ccdcba75ce9691858f3659fa04a5f79d174bd579fa457f57"), looks := false }, kinds := [], alts := [], laidByText := true, laidKinds := [.data, .data], laidTests := true, laidLooks := .later }
def LockFreesCardSaid : Prop := Claim7.holds Tryd.pinned (.plain (OpenSpec.ofChange lockFreesSpec)) lockFreesCard

/-- THE TIED CARD OF 'voxellaw28.LockOwners'. -/
def lockOwnersCard : Claim7 := { stood := { row := lockOwnersRow, standIns := [], harness := (true, "98ff935e6427d944ccdcba75ce9691858f3659fa04a5f79d174bd579fa457f57"), looks := false }, kinds := [], alts := [], laidByText := true, laidKinds := [.data, .data], laidTests := true, laidLooks := .later }
def LockOwnersCardSaid : Prop := Claim7.holds Tryd.pinned (.plain (OpenSpec.ofChange lockOwnersSpec)) lockOwnersCard

/-- THE SECOND FORM's CARD OF 'voxellaw28.LockMatchesSpec'. -/
def lockMatchesSpecUptoCard : Claim7 := { stood := { row := lockMatchesSpecUptoRow, standIns := [], harness := (true, "98ff935e6427d944ccdcba75ce9691858f3659fa04a5f79d174bd579fa457f57"), looks := false }, kinds := [], alts := [], laidByText := true, laidKinds := [.data, .data], laidTests := true, laidLooks := .later }
def LockMatchesSpecUptoCardSaid : Prop := Claim7.holds Tryd.pinned (.plain (OpenSpec.upto lockMatchesSpecSpec)) lockMatchesSpecUptoCard

/-- THE SECOND FORM's CARD OF 'voxellaw28.LockValidMatchesSpec'. -/
def lockValidMatchesSpecUptoCard : Claim7 := { stood := { row := lockValidMatchesSpecUptoRow, standIns := [], harness := (true, "98ff935e6427d944ccdcba75ce9691858f3659fa04a5f79d174bd579fa457f57"), looks := false }, kinds := [], alts := [], laidByText := true, laidKinds := [.data, .data], laidTests := true, laidLooks := .later }
def LockValidMatchesSpecUptoCardSaid : Prop := Claim7.holds Tryd.pinned (.plain (OpenSpec.upto lockValidMatchesSpecSpec)) lockValidMatchesSpecUptoCard

/-- THE SECOND FORM's CARD OF 'voxellaw28.LockStaysValid'. -/
def lockStaysValidUptoCard : Claim7 := { stood := { row := lockStaysValidUptoRow, standIns := [], harness := (true, "98ff935e6427d944ccdcba75ce9691858f3659fa04a5f79d174bd579fa457f57"), looks := false }, kinds := [], alts := [], laidByText := true, laidKinds := [.data, .data], laidTests := true, laidLooks := .later }
def LockStaysValidUptoCardSaid : Prop := Claim7.holds Tryd.pinned (.plain (OpenSpec.upto lockStaysValidSpec)) lockStaysValidUptoCard

/-- THE SECOND FORM's CARD OF 'voxellaw28.LockBlocksOthers'. -/
def lockBlocksOthersUptoCard : Claim7 := { stood := { row := lockBlocksOthersUptoRow, standIns := [], harness := (true, "98ff935e6427d944ccdcba75ce9691858f3659fa04a5f79d174bd579fa457f57"), looks := false }, kinds := [], alts := [], laidByText := true, laidKinds := [.data, .data], laidTests := true, laidLooks := .later }
def LockBlocksOthersUptoCardSaid : Prop := Claim7.holds Tryd.pinned (.plain (OpenSpec.upto lockBlocksOthersSpec)) lockBlocksOthersUptoCard

/-- THE SECOND FORM's CARD OF 'voxellaw28.LockFrees'. -/
def lockFreesUptoCard : Claim7 := { stood := { row := lockFreesUptoRow, standIns := [], harness := (true, "98ff935e6427d944ccdcba75ce9691858f3659fa04a5f79d174bd579fa457f57"), looks := false }, kinds := [], alts := [], laidByText := true, laidKinds := [.data, .data], laidTests := true, laidLooks := .later }
def LockFreesUptoCardSaid : Prop := Claim7.holds Tryd.pinned (.plain (OpenSpec.upto lockFreesSpec)) lockFreesUptoCard

/-- THE SECOND FORM's CARD OF 'voxellaw28.LockOwners'. -/
def lockOwnersUptoCard : Claim7 := { stood := { row := lockOwnersUptoRow, standIns := [], harness := (true, "98ff935e6427d944ccdcba75ce9691858f3659fa04a5f79d174bd579fa457f57"), looks := false }, kinds := [], alts := [], laidByText := true, laidKinds := [.data, .data], laidTests := true, laidLooks := .later }
def LockOwnersUptoCardSaid : Prop := Claim7.holds Tryd.pinned (.plain (OpenSpec.upto lockOwnersSpec)) lockOwnersUptoCard
end Rows
end Go.Proofs.YtjceebpafnnffaaDoor
