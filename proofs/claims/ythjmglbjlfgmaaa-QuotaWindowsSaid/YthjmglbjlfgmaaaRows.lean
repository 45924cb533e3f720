/-
  No cell of these rows narrows 'for every input' (looked for: loops, veiled, ifaces, maps, wideKeys, modest, calm, conditions, laid).
  DERIVED. THE GIVEN ROWS OF THIS SEAT. 5 by the template 'for every input the law returns true; each argument reads behind the call as it read before'; 0 by the template 'total and deterministic' (their statements: YthjmglbjlfgmaaaTotals.lean).
  GIVEN WITH THE SEED: the statements are not yours to turn. If you find one false, say at which input.
  Laid BY PROGRAM, IN A SANDBOX (cutbox-rows.mjs): the forced cells as the released guide's own fill.sh prints them over the translation aa1fe323955b68fa… (all of the seat's roots in one cut). By AI agents, Wed Nov 11 2026. No macro, syntax, notation, axiom, sorry.
-/
import Derived.Test.YthjmglbjlfgmaaaChecked
import GoSem.Claim
import GoSem.ClaimJoined
import GoSem.ClaimMapViews
import Derived.JoinedTies
import Derived.KernelRfl
namespace Go.Proofs.Ythjmglbjlfgmaaa
/- THE CELL 'sum', in the pinned program and in every row, IS THE sha256 OF THE DUMP (.gsa) THAT YthjmglbjlfgmaaaProg.lean LOADS. Nothing in Lean hashes anything: it is a label: what it is worth is what the hold of that sum in a sandbox is worth. -/
noncomputable def Try.pinned : Pinned := { name := "ythjmglbjlfgmaaa", sum := "aa1fe323955b68fa8df0ff1c8ebcaf8156f572b7607e21b3d602027169c898b7", checked := Try.checked }
namespace Rows
def none {H : Type} : Left H := { results := [], args := [] }

/-- 'voxellaw29.QuotaMatchesSpec': WHATEVER THE INPUT: true; the input reads as it did. -/
def quotaMatchesSpecSpec : ChangeSpec := { name := "quotaMatchesSpec", fn := fun _ => fun
  | [d1, d2, d3, d4, d5] => { results := [.lit (.bool true)], args := [d1, d2, d3, d4, d5] }
  | _ => none }
def quotaMatchesSpecRow : OpenClaim := { program := "ythjmglbjlfgmaaa", sum := "aa1fe323955b68fa8df0ff1c8ebcaf8156f572b7607e21b3d602027169c898b7", func := "voxel/voxellaw29.QuotaMatchesSpec", spec := "quotaMatchesSpec", inPlace := ["slices.overlaps[voxel/api.Use]"], unfollowed := true, recurses := true, apart := false }
def QuotaMatchesSpecSaid : Prop := quotaMatchesSpecRow.holds Try.pinned (OpenSpec.ofChange quotaMatchesSpecSpec)

/-- ITS FALSE NEIGHBOUR: 'it returns false'. Refute it at one input. -/
def quotaMatchesSpecWrong : ChangeSpec := { name := "quotaMatchesSpec", fn := fun _ => fun
  | [d1, d2, d3, d4, d5] => { results := [.lit (.bool false)], args := [d1, d2, d3, d4, d5] }
  | _ => none }
def QuotaMatchesSpecWrongFalsely : Prop := quotaMatchesSpecRow.holds Try.pinned (OpenSpec.ofChange quotaMatchesSpecWrong)

/-- 'voxellaw29.QuotaWindows': WHATEVER THE INPUT: true; the input reads as it did. -/
def quotaWindowsSpec : ChangeSpec := { name := "quotaWindows", fn := fun _ => fun
  | [d1, d2] => { results := [.lit (.bool true)], args := [d1, d2] }
  | _ => none }
def quotaWindowsRow : OpenClaim := { program := "ythjmglbjlfgmaaa", sum := "aa1fe323955b68fa8df0ff1c8ebcaf8156f572b7607e21b3d602027169c898b7", func := "voxel/voxellaw29.QuotaWindows", spec := "quotaWindows", inPlace := ["slices.overlaps[voxel/api.Use]"], unfollowed := true, recurses := true, apart := false }
def QuotaWindowsSaid : Prop := quotaWindowsRow.holds Try.pinned (OpenSpec.ofChange quotaWindowsSpec)

/-- ITS FALSE NEIGHBOUR: 'it returns false'. Refute it at one input. -/
def quotaWindowsWrong : ChangeSpec := { name := "quotaWindows", fn := fun _ => fun
  | [d1, d2] => { results := [.lit (.bool false)], args := [d1, d2] }
  | _ => none }
def QuotaWindowsWrongFalsely : Prop := quotaWindowsRow.holds Try.pinned (OpenSpec.ofChange quotaWindowsWrong)

/-- 'voxellaw29.QuotaSitesApart': WHATEVER THE INPUT: true; the input reads as it did. -/
def quotaSitesApartSpec : ChangeSpec := { name := "quotaSitesApart", fn := fun _ => fun
  | [d1, d2, d3] => { results := [.lit (.bool true)], args := [d1, d2, d3] }
  | _ => none }
def quotaSitesApartRow : OpenClaim := { program := "ythjmglbjlfgmaaa", sum := "aa1fe323955b68fa8df0ff1c8ebcaf8156f572b7607e21b3d602027169c898b7", func := "voxel/voxellaw29.QuotaSitesApart", spec := "quotaSitesApart", inPlace := ["slices.overlaps[voxel/api.Use]"], unfollowed := true, recurses := true, apart := false }
def QuotaSitesApartSaid : Prop := quotaSitesApartRow.holds Try.pinned (OpenSpec.ofChange quotaSitesApartSpec)

/-- ITS FALSE NEIGHBOUR: 'it returns false'. Refute it at one input. -/
def quotaSitesApartWrong : ChangeSpec := { name := "quotaSitesApart", fn := fun _ => fun
  | [d1, d2, d3] => { results := [.lit (.bool false)], args := [d1, d2, d3] }
  | _ => none }
def QuotaSitesApartWrongFalsely : Prop := quotaSitesApartRow.holds Try.pinned (OpenSpec.ofChange quotaSitesApartWrong)

/-- 'voxellaw29.QuotaPrunes': WHATEVER THE INPUT: true; the input reads as it did. -/
def quotaPrunesSpec : ChangeSpec := { name := "quotaPrunes", fn := fun _ => fun
  | [d1, d2, d3, d4, d5, d6] => { results := [.lit (.bool true)], args := [d1, d2, d3, d4, d5, d6] }
  | _ => none }
def quotaPrunesRow : OpenClaim := { program := "ythjmglbjlfgmaaa", sum := "aa1fe323955b68fa8df0ff1c8ebcaf8156f572b7607e21b3d602027169c898b7", func := "voxel/voxellaw29.QuotaPrunes", spec := "quotaPrunes", inPlace := ["slices.overlaps[voxel/api.Use]"], unfollowed := true, recurses := true, apart := false }
def QuotaPrunesSaid : Prop := quotaPrunesRow.holds Try.pinned (OpenSpec.ofChange quotaPrunesSpec)

/-- ITS FALSE NEIGHBOUR: 'it returns false'. Refute it at one input. -/
def quotaPrunesWrong : ChangeSpec := { name := "quotaPrunes", fn := fun _ => fun
  | [d1, d2, d3, d4, d5, d6] => { results := [.lit (.bool false)], args := [d1, d2, d3, d4, d5, d6] }
  | _ => none }
def QuotaPrunesWrongFalsely : Prop := quotaPrunesRow.holds Try.pinned (OpenSpec.ofChange quotaPrunesWrong)

/-- 'voxellaw29.QuotaTakeAdds': WHATEVER THE INPUT: true; the input reads as it did. -/
def quotaTakeAddsSpec : ChangeSpec := { name := "quotaTakeAdds", fn := fun _ => fun
  | [d1, d2, d3, d4, d5, d6] => { results := [.lit (.bool true)], args := [d1, d2, d3, d4, d5, d6] }
  | _ => none }
def quotaTakeAddsRow : OpenClaim := { program := "ythjmglbjlfgmaaa", sum := "aa1fe323955b68fa8df0ff1c8ebcaf8156f572b7607e21b3d602027169c898b7", func := "voxel/voxellaw29.QuotaTakeAdds", spec := "quotaTakeAdds", inPlace := ["slices.overlaps[voxel/api.Use]"], unfollowed := true, recurses := true, apart := false }
def QuotaTakeAddsSaid : Prop := quotaTakeAddsRow.holds Try.pinned (OpenSpec.ofChange quotaTakeAddsSpec)

/-- ITS FALSE NEIGHBOUR: 'it returns false'. Refute it at one input. -/
def quotaTakeAddsWrong : ChangeSpec := { name := "quotaTakeAdds", fn := fun _ => fun
  | [d1, d2, d3, d4, d5, d6] => { results := [.lit (.bool false)], args := [d1, d2, d3, d4, d5, d6] }
  | _ => none }
def QuotaTakeAddsWrongFalsely : Prop := quotaTakeAddsRow.holds Try.pinned (OpenSpec.ofChange quotaTakeAddsWrong)

/- THE SECOND FORM. 'bulk': how many values and letters a reading holds, each counted each time it is reached (what is shared counts as often as it is met; a slice's spare places count too). A statement '..UptoSaid' is the law's where the arguments, and the package variables that the reading takes, are together of bulk at most 1048576: NARROWER than '..Said'. Prove '..Said' where nothing that the law and all that it calls make is longer than what came in: it says more and counts as full. Else prove '..UptoSaid'. A law counts once. -/
mutual
def uptoBulk {H : Type} : DataW H → Nat
  | .lit (.string bytes) => bytes.length + 1
  | .lit _ => 1
  | .nil => 1
  | .ptr d => uptoBulk d + 1
  | .slice elems spare => uptoBulkAll elems + uptoBulkAll spare + 1
  | .agg parts => uptoBulkAll parts + 1
  | .iface _ d => uptoBulk d + 1
  | .map entries => uptoBulkEntries entries + 1
  | .held _ => 1
def uptoBulkAll {H : Type} : List (DataW H) → Nat
  | [] => 0
  | d :: r => uptoBulk d + uptoBulkAll r
def uptoBulkEntries {H : Type} : List (Lit × DataW H) → Nat
  | [] => 0
  | x :: r => uptoBulkEntry x + uptoBulkEntries r
def uptoBulkEntry {H : Type} : Lit × DataW H → Nat
  | (.string bytes, d) => bytes.length + uptoBulk d + 1
  | (_, d) => uptoBulk d + 1
 end
def uptoSmall : (H : Type) → List (DataW H) → Bool := fun _ ds => decide (uptoBulkAll ds ≤ 1048576)
def OpenSpec.upto (s : _root_.Go.ChangeSpec) : _root_.Go.OpenSpec := { _root_.Go.OpenSpec.ofChange s with cond := some uptoSmall }

/-- 'voxellaw29.QuotaMatchesSpec', WHERE WHAT IT READS IS OF BULK AT MOST 1048576: true; the input reads as it did. -/
def quotaMatchesSpecUptoRow : OpenClaim := { program := "ythjmglbjlfgmaaa", sum := "aa1fe323955b68fa8df0ff1c8ebcaf8156f572b7607e21b3d602027169c898b7", func := "voxel/voxellaw29.QuotaMatchesSpec", spec := "quotaMatchesSpec", inPlace := ["slices.overlaps[voxel/api.Use]"], unfollowed := true, recurses := true, apart := false, narrowed := true }
def QuotaMatchesSpecUptoSaid : Prop := quotaMatchesSpecUptoRow.holds Try.pinned (OpenSpec.upto quotaMatchesSpecSpec)

/-- 'voxellaw29.QuotaWindows', WHERE WHAT IT READS IS OF BULK AT MOST 1048576: true; the input reads as it did. -/
def quotaWindowsUptoRow : OpenClaim := { program := "ythjmglbjlfgmaaa", sum := "aa1fe323955b68fa8df0ff1c8ebcaf8156f572b7607e21b3d602027169c898b7", func := "voxel/voxellaw29.QuotaWindows", spec := "quotaWindows", inPlace := ["slices.overlaps[voxel/api.Use]"], unfollowed := true, recurses := true, apart := false, narrowed := true }
def QuotaWindowsUptoSaid : Prop := quotaWindowsUptoRow.holds Try.pinned (OpenSpec.upto quotaWindowsSpec)

/-- 'voxellaw29.QuotaSitesApart', WHERE WHAT IT READS IS OF BULK AT MOST 1048576: true; the input reads as it did. -/
def quotaSitesApartUptoRow : OpenClaim := { program := "ythjmglbjlfgmaaa", sum := "aa1fe323955b68fa8df0ff1c8ebcaf8156f572b7607e21b3d602027169c898b7", func := "voxel/voxellaw29.QuotaSitesApart", spec := "quotaSitesApart", inPlace := ["slices.overlaps[voxel/api.Use]"], unfollowed := true, recurses := true, apart := false, narrowed := true }
def QuotaSitesApartUptoSaid : Prop := quotaSitesApartUptoRow.holds Try.pinned (OpenSpec.upto quotaSitesApartSpec)

/-- 'voxellaw29.QuotaPrunes', WHERE WHAT IT READS IS OF BULK AT MOST 1048576: true; the input reads as it did. -/
def quotaPrunesUptoRow : OpenClaim := { program := "ythjmglbjlfgmaaa", sum := "aa1fe323955b68fa8df0ff1c8ebcaf8156f572b7607e21b3d602027169c898b7", func := "voxel/voxellaw29.QuotaPrunes", spec := "quotaPrunes", inPlace := ["slices.overlaps[voxel/api.Use]"], unfollowed := true, recurses := true, apart := false, narrowed := true }
def QuotaPrunesUptoSaid : Prop := quotaPrunesUptoRow.holds Try.pinned (OpenSpec.upto quotaPrunesSpec)

/-- 'voxellaw29.QuotaTakeAdds', WHERE WHAT IT READS IS OF BULK AT MOST 1048576: true; the input reads as it did. -/
def quotaTakeAddsUptoRow : OpenClaim := { program := "ythjmglbjlfgmaaa", sum := "aa1fe323955b68fa8df0ff1c8ebcaf8156f572b7607e21b3d602027169c898b7", func := "voxel/voxellaw29.QuotaTakeAdds", spec := "quotaTakeAdds", inPlace := ["slices.overlaps[voxel/api.Use]"], unfollowed := true, recurses := true, apart := false, narrowed := true }
def QuotaTakeAddsUptoSaid : Prop := quotaTakeAddsUptoRow.holds Try.pinned (OpenSpec.upto quotaTakeAddsSpec)

end Rows
end Go.Proofs.Ythjmglbjlfgmaaa
