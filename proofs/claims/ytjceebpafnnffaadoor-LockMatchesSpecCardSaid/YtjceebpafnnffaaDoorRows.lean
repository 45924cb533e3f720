/-
  NARROWER THAN 'FOR EVERY INPUT', by the rows' own cells (each row's printed sentence says how): LockMatchesSpec: laid · LockValidMatchesSpec: laid · LockStaysValid: laid · LockBlocksOthers: laid · LockFrees: laid · LockOwners: laid.
  DERIVED. THE GIVEN ROWS OF THIS SEAT. 6 by the template 'for every input the law returns true; each argument reads behind the call as it read before'; 0 by the template 'total and deterministic' (their statements: YtjceebpafnnffaaDoorTotals.lean).
  GIVEN WITH THE SEED: the statements are not yours to turn. If you find one false, say at which input.
  Laid BY PROGRAM, IN A SANDBOX (cutbox-rows.mjs): the forced cells as the released guide's own fill.sh prints them over the translation 1da701596441cc64… (all of the seat's roots in one cut). By AI agents, Wed Nov 11 2026. No macro, syntax, notation, axiom, sorry.
-/
import Derived.Test.YtjceebpafnnffaaDoorChecked
import GoSem.Claim
import GoSem.ClaimJoined
import GoSem.ClaimMapViews
import Derived.JoinedTies
import Derived.KernelRfl
namespace Go.Proofs.YtjceebpafnnffaaDoor
/- THE CELL 'sum', in the pinned program and in every row, IS THE sha256 OF THE DUMP (.gsa) THAT YtjceebpafnnffaaDoorProg.lean LOADS. Nothing in Lean hashes anything: it is a label: what it is worth is what the hold of that sum in a sandbox is worth. -/
noncomputable def Tryd.pinned : Pinned := { name := "ytjceebpafnnffaadoor", sum := "1da701596441cc64fa61bb44efc53e9a33bba62a69f4dd74e4216cffdc591d8b", checked := Tryd.checked }
namespace Rows
def none {H : Type} : Left H := { results := [], args := [] }

/- WHAT THE LISTED PACKAGE-LEVEL VARIABLES READ AS WHEN THE CALL BEGINS. Each datum BY PROGRAM (the guide's laid-datum.mjs) off the statement by which the dump's own 'gosem.cut.vars' lays the variable. In a bare row this is a premise. The card (YtjceebpafnnffaaDoorCards.lean) ties it to the program's text. -/
def laid_voxel_edit_rows {H : Type} : DataW H := .agg [.agg [.lit (.string []), .lit (.int .i64 0)], .agg [.lit (.string [98, 111, 120]), .lit (.int .i64 9)], .agg [.lit (.string [98, 97, 108, 108]), .lit (.int .i64 26)], .agg [.lit (.string [112, 114, 105, 115, 109]), .lit (.int .i64 13)], .agg [.lit (.string [99, 111, 112, 121]), .lit (.int .i64 7)], .agg [.lit (.string [102, 105, 108, 108]), .lit (.int .i64 26)], .agg [.lit (.string [117, 110, 100, 111]), .lit (.int .i64 16)], .agg [.lit (.string [108, 111, 99, 107]), .lit (.int .i64 17)], .agg [.lit (.string [117, 110, 108, 111, 99, 107]), .lit (.int .i64 16)]]
def laid_voxel_lock_world {H : Type} : DataW H := .agg [.agg [.lit (.int .i64 0), .lit (.int .i64 0), .lit (.int .i64 0)], .agg [.lit (.int .i64 16384), .lit (.int .i64 16384), .lit (.int .i64 16384)]]

/-- 'voxellaw28.LockMatchesSpec': WHATEVER THE INPUT: true; the input reads as it did. -/
def lockMatchesSpecSpec : ChangeSpec := { name := "lockMatchesSpec", fn := fun _ => fun
  | [d1, d2, d3, d4, d5, d6] => { results := [.lit (.bool true)], args := [d1, d2, d3, d4, d5, d6] }
  | _ => none }
def lockMatchesSpecRow : OpenClaim := { program := "ytjceebpafnnffaadoor", sum := "1da701596441cc64fa61bb44efc53e9a33bba62a69f4dd74e4216cffdc591d8b", func := "voxel/voxellaw28.LockMatchesSpec", spec := "lockMatchesSpec", inPlace := ["slices.overlaps[voxel/api.Lock]"], unfollowed := true, recurses := true, named := ["voxel/edit.rows", "voxel/lock.world"], apart := false, laid := [("voxel/edit.rows", laid_voxel_edit_rows), ("voxel/lock.world", laid_voxel_lock_world)] }
def LockMatchesSpecSaid : Prop := lockMatchesSpecRow.holds Tryd.pinned (OpenSpec.ofChange lockMatchesSpecSpec)

/-- ITS FALSE NEIGHBOUR: 'it returns false'. Refute it at one input. -/
def lockMatchesSpecWrong : ChangeSpec := { name := "lockMatchesSpec", fn := fun _ => fun
  | [d1, d2, d3, d4, d5, d6] => { results := [.lit (.bool false)], args := [d1, d2, d3, d4, d5, d6] }
  | _ => none }
def LockMatchesSpecWrongFalsely : Prop := lockMatchesSpecRow.holds Tryd.pinned (OpenSpec.ofChange lockMatchesSpecWrong)

/-- 'voxellaw28.LockValidMatchesSpec': WHATEVER THE INPUT: true; the input reads as it did. -/
def lockValidMatchesSpecSpec : ChangeSpec := { name := "lockValidMatchesSpec", fn := fun _ => fun
  | [d] => { results := [.lit (.bool true)], args := [d] }
  | _ => none }
def lockValidMatchesSpecRow : OpenClaim := { program := "ytjceebpafnnffaadoor", sum := "1da701596441cc64fa61bb44efc53e9a33bba62a69f4dd74e4216cffdc591d8b", func := "voxel/voxellaw28.LockValidMatchesSpec", spec := "lockValidMatchesSpec", inPlace := ["slices.overlaps[voxel/api.Lock]"], unfollowed := true, recurses := true, named := ["voxel/edit.rows", "voxel/lock.world"], apart := false, laid := [("voxel/edit.rows", laid_voxel_edit_rows), ("voxel/lock.world", laid_voxel_lock_world)] }
def LockValidMatchesSpecSaid : Prop := lockValidMatchesSpecRow.holds Tryd.pinned (OpenSpec.ofChange lockValidMatchesSpecSpec)

/-- ITS FALSE NEIGHBOUR: 'it returns false'. Refute it at one input. -/
def lockValidMatchesSpecWrong : ChangeSpec := { name := "lockValidMatchesSpec", fn := fun _ => fun
  | [d] => { results := [.lit (.bool false)], args := [d] }
  | _ => none }
def LockValidMatchesSpecWrongFalsely : Prop := lockValidMatchesSpecRow.holds Tryd.pinned (OpenSpec.ofChange lockValidMatchesSpecWrong)

/-- 'voxellaw28.LockStaysValid': WHATEVER THE INPUT: true; the input reads as it did. -/
def lockStaysValidSpec : ChangeSpec := { name := "lockStaysValid", fn := fun _ => fun
  | [d] => { results := [.lit (.bool true)], args := [d] }
  | _ => none }
def lockStaysValidRow : OpenClaim := { program := "ytjceebpafnnffaadoor", sum := "1da701596441cc64fa61bb44efc53e9a33bba62a69f4dd74e4216cffdc591d8b", func := "voxel/voxellaw28.LockStaysValid", spec := "lockStaysValid", inPlace := ["slices.overlaps[voxel/api.Lock]"], unfollowed := true, recurses := true, named := ["voxel/edit.rows", "voxel/lock.world"], apart := false, laid := [("voxel/edit.rows", laid_voxel_edit_rows), ("voxel/lock.world", laid_voxel_lock_world)] }
def LockStaysValidSaid : Prop := lockStaysValidRow.holds Tryd.pinned (OpenSpec.ofChange lockStaysValidSpec)

/-- ITS FALSE NEIGHBOUR: 'it returns false'. Refute it at one input. -/
def lockStaysValidWrong : ChangeSpec := { name := "lockStaysValid", fn := fun _ => fun
  | [d] => { results := [.lit (.bool false)], args := [d] }
  | _ => none }
def LockStaysValidWrongFalsely : Prop := lockStaysValidRow.holds Tryd.pinned (OpenSpec.ofChange lockStaysValidWrong)

/-- 'voxellaw28.LockBlocksOthers': WHATEVER THE INPUT: true; the input reads as it did. -/
def lockBlocksOthersSpec : ChangeSpec := { name := "lockBlocksOthers", fn := fun _ => fun
  | [d1, d2, d3, d4, d5] => { results := [.lit (.bool true)], args := [d1, d2, d3, d4, d5] }
  | _ => none }
def lockBlocksOthersRow : OpenClaim := { program := "ytjceebpafnnffaadoor", sum := "1da701596441cc64fa61bb44efc53e9a33bba62a69f4dd74e4216cffdc591d8b", func := "voxel/voxellaw28.LockBlocksOthers", spec := "lockBlocksOthers", inPlace := ["slices.overlaps[voxel/api.Lock]"], unfollowed := true, recurses := true, named := ["voxel/edit.rows", "voxel/lock.world"], apart := false, laid := [("voxel/edit.rows", laid_voxel_edit_rows), ("voxel/lock.world", laid_voxel_lock_world)] }
def LockBlocksOthersSaid : Prop := lockBlocksOthersRow.holds Tryd.pinned (OpenSpec.ofChange lockBlocksOthersSpec)

/-- ITS FALSE NEIGHBOUR: 'it returns false'. Refute it at one input. -/
def lockBlocksOthersWrong : ChangeSpec := { name := "lockBlocksOthers", fn := fun _ => fun
  | [d1, d2, d3, d4, d5] => { results := [.lit (.bool false)], args := [d1, d2, d3, d4, d5] }
  | _ => none }
def LockBlocksOthersWrongFalsely : Prop := lockBlocksOthersRow.holds Tryd.pinned (OpenSpec.ofChange lockBlocksOthersWrong)

/-- 'voxellaw28.LockFrees': WHATEVER THE INPUT: true; the input reads as it did. -/
def lockFreesSpec : ChangeSpec := { name := "lockFrees", fn := fun _ => fun
  | [d1, d2] => { results := [.lit (.bool true)], args := [d1, d2] }
  | _ => none }
def lockFreesRow : OpenClaim := { program := "ytjceebpafnnffaadoor", sum := "1da701596441cc64fa61bb44efc53e9a33bba62a69f4dd74e4216cffdc591d8b", func := "voxel/voxellaw28.LockFrees", spec := "lockFrees", inPlace := ["slices.overlaps[voxel/api.Lock]"], unfollowed := true, recurses := true, named := ["voxel/edit.rows", "voxel/lock.world"], apart := false, laid := [("voxel/edit.rows", laid_voxel_edit_rows), ("voxel/lock.world", laid_voxel_lock_world)] }
def LockFreesSaid : Prop := lockFreesRow.holds Tryd.pinned (OpenSpec.ofChange lockFreesSpec)

/-- ITS FALSE NEIGHBOUR: 'it returns false'. Refute it at one input. -/
def lockFreesWrong : ChangeSpec := { name := "lockFrees", fn := fun _ => fun
  | [d1, d2] => { results := [.lit (.bool false)], args := [d1, d2] }
  | _ => none }
def LockFreesWrongFalsely : Prop := lockFreesRow.holds Tryd.pinned (OpenSpec.ofChange lockFreesWrong)

/-- 'voxellaw28.LockOwners': WHATEVER THE INPUT: true; the input reads as it did. -/
def lockOwnersSpec : ChangeSpec := { name := "lockOwners", fn := fun _ => fun
  | [d1, d2, d3, d4, d5] => { results := [.lit (.bool true)], args := [d1, d2, d3, d4, d5] }
  | _ => none }
def lockOwnersRow : OpenClaim := { program := "ytjceebpafnnffaadoor", sum := "1da701596441cc64fa61bb44efc53e9a33bba62a69f4dd74e4216cffdc591d8b", func := "voxel/voxellaw28.LockOwners", spec := "lockOwners", inPlace := ["slices.overlaps[voxel/api.Lock]"], unfollowed := true, recurses := true, named := ["voxel/edit.rows", "voxel/lock.world"], apart := false, laid := [("voxel/edit.rows", laid_voxel_edit_rows), ("voxel/lock.world", laid_voxel_lock_world)] }
def LockOwnersSaid : Prop := lockOwnersRow.holds Tryd.pinned (OpenSpec.ofChange lockOwnersSpec)

/-- ITS FALSE NEIGHBOUR: 'it returns false'. Refute it at one input. -/
def lockOwnersWrong : ChangeSpec := { name := "lockOwners", fn := fun _ => fun
  | [d1, d2, d3, d4, d5] => { results := [.lit (.bool false)], args := [d1, d2, d3, d4, d5] }
  | _ => none }
def LockOwnersWrongFalsely : Prop := lockOwnersRow.holds Tryd.pinned (OpenSpec.ofChange lockOwnersWrong)

/- THE SECOND FORM. 'bulk': how many values and letters a reading holds, each counted each time it is reached (what is shared counts as often as it is met; a slice's spare places count too). A statement '..UptoSaid' is the law's where the arguments, and the package variables that the reading takes, are together of bulk at most 1048576: NARROWER than '..Said'. Prove '..Said' where nothing that the law and all that it calls make is longer than what came in: it says more and counts as full. Else prove '..UptoSaid'. A law counts once. -/
mutual
def uptoBulk {H : Type} : DataW H → Nat
  | .lit (.string bytes) => bytes.length + 1
  | .lit _ => 1
  | .nil => 1
  | .ptr d => uptoBulk d + 1
  | .slice elems spare => uptoBulkAll elems + uptoBulkAll spare + 1
  | .agg parts => uptoBulkAll parts + 1
  | .iface _ d => uptoBulk d + 1
  | .map entries => uptoBulkEntries entries + 1
  | .held _ => 1
def uptoBulkAll {H : Type} : List (DataW H) → Nat
  | [] => 0
  | d :: r => uptoBulk d + uptoBulkAll r
def uptoBulkEntries {H : Type} : List (Lit × DataW H) → Nat
  | [] => 0
  | x :: r => uptoBulkEntry x + uptoBulkEntries r
def uptoBulkEntry {H : Type} : Lit × DataW H → Nat
  | (.string bytes, d) => bytes.length + uptoBulk d + 1
  | (_, d) => uptoBulk d + 1
 end
def uptoSmall : (H : Type) → List (DataW H) → Bool := fun _ ds => decide (uptoBulkAll ds ≤ 1048576)
def OpenSpec.upto (s : _root_.Go.ChangeSpec) : _root_.Go.OpenSpec := { _root_.Go.OpenSpec.ofChange s with cond := some uptoSmall }

/-- 'voxellaw28.LockMatchesSpec', WHERE WHAT IT READS IS OF BULK AT MOST 1048576: true; the input reads as it did. -/
def lockMatchesSpecUptoRow : OpenClaim := { program := "ytjceebpafnnffaadoor", sum := "1da701596441cc64fa61bb44efc53e9a33bba62a69f4dd74e4216cffdc591d8b", func := "voxel/voxellaw28.LockMatchesSpec", spec := "lockMatchesSpec", inPlace := ["slices.overlaps[voxel/api.Lock]"], unfollowed := true, recurses := true, named := ["voxel/edit.rows", "voxel/lock.world"], apart := false, laid := [("voxel/edit.rows", laid_voxel_edit_rows), ("voxel/lock.world", laid_voxel_lock_world)], narrowed := true }
def LockMatchesSpecUptoSaid : Prop := lockMatchesSpecUptoRow.holds Tryd.pinned (OpenSpec.upto lockMatchesSpecSpec)

/-- 'voxellaw28.LockValidMatchesSpec', WHERE WHAT IT READS IS OF BULK AT MOST 1048576: true; the input reads as it did. -/
def lockValidMatchesSpecUptoRow : OpenClaim := { program := "ytjceebpafnnffaadoor", sum := "1da701596441cc64fa61bb44efc53e9a33bba62a69f4dd74e4216cffdc591d8b", func := "voxel/voxellaw28.LockValidMatchesSpec", spec := "lockValidMatchesSpec", inPlace := ["slices.overlaps[voxel/api.Lock]"], unfollowed := true, recurses := true, named := ["voxel/edit.rows", "voxel/lock.world"], apart := false, laid := [("voxel/edit.rows", laid_voxel_edit_rows), ("voxel/lock.world", laid_voxel_lock_world)], narrowed := true }
def LockValidMatchesSpecUptoSaid : Prop := lockValidMatchesSpecUptoRow.holds Tryd.pinned (OpenSpec.upto lockValidMatchesSpecSpec)

/-- 'voxellaw28.LockStaysValid', WHERE WHAT IT READS IS OF BULK AT MOST 1048576: true; the input reads as it did. -/
def lockStaysValidUptoRow : OpenClaim := { program := "ytjceebpafnnffaadoor", sum := "1da701596441cc64fa61bb44efc53e9a33bba62a69f4dd74e4216cffdc591d8b", func := "voxel/voxellaw28.LockStaysValid", spec := "lockStaysValid", inPlace := ["slices.overlaps[voxel/api.Lock]"], unfollowed := true, recurses := true, named := ["voxel/edit.rows", "voxel/lock.world"], apart := false, laid := [("voxel/edit.rows", laid_voxel_edit_rows), ("voxel/lock.world", laid_voxel_lock_world)], narrowed := true }
def LockStaysValidUptoSaid : Prop := lockStaysValidUptoRow.holds Tryd.pinned (OpenSpec.upto lockStaysValidSpec)

/-- 'voxellaw28.LockBlocksOthers', WHERE WHAT IT READS IS OF BULK AT MOST 1048576: true; the input reads as it did. -/
def lockBlocksOthersUptoRow : OpenClaim := { program := "ytjceebpafnnffaadoor", sum := "1da701596441cc64fa61bb44efc53e9a33bba62a69f4dd74e4216cffdc591d8b", func := "voxel/voxellaw28.LockBlocksOthers", spec := "lockBlocksOthers", inPlace := ["slices.overlaps[voxel/api.Lock]"], unfollowed := true, recurses := true, named := ["voxel/edit.rows", "voxel/lock.world"], apart := false, laid := [("voxel/edit.rows", laid_voxel_edit_rows), ("voxel/lock.world", laid_voxel_lock_world)], narrowed := true }
def LockBlocksOthersUptoSaid : Prop := lockBlocksOthersUptoRow.holds Tryd.pinned (OpenSpec.upto lockBlocksOthersSpec)

/-- 'voxellaw28.LockFrees', WHERE WHAT IT READS IS OF BULK AT MOST 1048576: true; the input reads as it did. -/
def lockFreesUptoRow : OpenClaim := { program := "ytjceebpafnnffaadoor", sum := "1da701596441cc64fa61bb44efc53e9a33bba62a69f4dd74e4216cffdc591d8b", func := "voxel/voxellaw28.LockFrees", spec := "lockFrees", inPlace := ["slices.overlaps[voxel/api.Lock]"], unfollowed := true, recurses := true, named := ["voxel/edit.rows", "voxel/lock.world"], apart := false, laid := [("voxel/edit.rows", laid_voxel_edit_rows), ("voxel/lock.world", laid_voxel_lock_world)], narrowed := true }
def LockFreesUptoSaid : Prop := lockFreesUptoRow.holds Tryd.pinned (OpenSpec.upto lockFreesSpec)

/-- 'voxellaw28.LockOwners', WHERE WHAT IT READS IS OF BULK AT MOST 1048576: true; the input reads as it did. -/
def lockOwnersUptoRow : OpenClaim := { program := "ytjceebpafnnffaadoor", sum := "1da701596441cc64fa61bb44efc53e9a33bba62a69f4dd74e4216cffdc591d8b", func := "voxel/voxellaw28.LockOwners", spec := "lockOwners", inPlace := ["slices.overlaps[voxel/api.Lock]"], unfollowed := true, recurses := true, named := ["voxel/edit.rows", "voxel/lock.world"], apart := false, laid := [("voxel/edit.rows", laid_voxel_edit_rows), ("voxel/lock.world", laid_voxel_lock_world)], narrowed := true }
def LockOwnersUptoSaid : Prop := lockOwnersUptoRow.holds Tryd.pinned (OpenSpec.upto lockOwnersSpec)

end Rows
end Go.Proofs.YtjceebpafnnffaaDoor
