/-
  NARROWER THAN 'FOR EVERY INPUT', by the rows' own cells (each row's printed sentence says how): ApplyMatchesSpec: laid · ApplyListsMatchSpec: laid · ApplyStaysInBounds: laid · ApplyTwice: laid · ApplyReverts: laid · ApplyFillIsFresh: laid.
  DERIVED. THE GIVEN ROWS OF THIS SEAT. 6 by the template 'for every input the law returns true; each argument reads behind the call as it read before'; 0 by the template 'total and deterministic' (their statements: YtoecbicdahbccaaGreatDoorTotals.lean).
  GIVEN WITH THE SEED: the statements are not yours to turn. If you find one false, say at which input.
  Laid BY PROGRAM, IN A SANDBOX (cutbox-rows.mjs): the forced cells as the released guide's own fill.sh prints them over the translation e7aabd77bae9fda1… (all of the seat's roots in one cut). By AI agents, Wed Nov 11 2026. No macro, syntax, notation, axiom, sorry.
-/
import Derived.Test.YtoecbicdahbccaaGreatDoorChecked
import GoSem.Claim
import GoSem.ClaimJoined
import GoSem.ClaimMapViews
import Derived.JoinedTies
import Derived.KernelRfl
namespace Go.Proofs.YtoecbicdahbccaaGreatDoor
/- THE CELL 'sum', in the pinned program and in every row, IS THE sha256 OF THE DUMP (.gsa) THAT YtoecbicdahbccaaGreatDoorProg.lean LOADS. Nothing in Lean hashes anything: it is a label: what it is worth is what the hold of that sum in a sandbox is worth. -/
noncomputable def Tryz.pinned : Pinned := { name := "ytoecbicdahbccaagreatdoor", sum := "e7aabd77bae9fda137d4b1dd6bf8c372d7a60041cafebfa5d5abcd4df15e07f1", checked := Tryz.checked }
namespace Rows
def none {H : Type} : Left H := { results := [], args := [] }

/- WHAT THE LISTED PACKAGE-LEVEL VARIABLES READ AS WHEN THE CALL BEGINS. Each datum BY PROGRAM (the guide's laid-datum.mjs) off the statement by which the dump's own 'gosem.cut.vars' lays the variable. In a bare row this is a premise. The card (YtoecbicdahbccaaGreatDoorCards.lean) ties it to the program's text. -/
def laid_voxel_point_axes {H : Type} : DataW H := .agg [.lit (.string [120, 121, 122]), .lit (.string [120, 122, 121]), .lit (.string [121, 120, 122]), .lit (.string [121, 122, 120]), .lit (.string [122, 120, 121]), .lit (.string [122, 121, 120])]
def laid_voxel_fill_steps {H : Type} : DataW H := .agg [.agg [.lit (.int .i64 1), .lit (.int .i64 0), .lit (.int .i64 0)], .agg [.lit (.int .i64 (-1)), .lit (.int .i64 0), .lit (.int .i64 0)], .agg [.lit (.int .i64 0), .lit (.int .i64 1), .lit (.int .i64 0)], .agg [.lit (.int .i64 0), .lit (.int .i64 (-1)), .lit (.int .i64 0)], .agg [.lit (.int .i64 0), .lit (.int .i64 0), .lit (.int .i64 1)], .agg [.lit (.int .i64 0), .lit (.int .i64 0), .lit (.int .i64 (-1))]]
def laid_voxel_edit_rows {H : Type} : DataW H := .agg [.agg [.lit (.string []), .lit (.int .i64 0)], .agg [.lit (.string [98, 111, 120]), .lit (.int .i64 9)], .agg [.lit (.string [98, 97, 108, 108]), .lit (.int .i64 26)], .agg [.lit (.string [112, 114, 105, 115, 109]), .lit (.int .i64 13)], .agg [.lit (.string [99, 111, 112, 121]), .lit (.int .i64 7)], .agg [.lit (.string [102, 105, 108, 108]), .lit (.int .i64 26)], .agg [.lit (.string [117, 110, 100, 111]), .lit (.int .i64 16)], .agg [.lit (.string [108, 111, 99, 107]), .lit (.int .i64 17)], .agg [.lit (.string [117, 110, 108, 111, 99, 107]), .lit (.int .i64 16)]]

/-- 'voxellaw26.ApplyMatchesSpec': WHATEVER THE INPUT: true; the input reads as it did. -/
def applyMatchesSpecSpec : ChangeSpec := { name := "applyMatchesSpec", fn := fun _ => fun
  | [d1, d2, d3, d4, d5] => { results := [.lit (.bool true)], args := [d1, d2, d3, d4, d5] }
  | _ => none }
def applyMatchesSpecRow : OpenClaim := { program := "ytoecbicdahbccaagreatdoor", sum := "e7aabd77bae9fda137d4b1dd6bf8c372d7a60041cafebfa5d5abcd4df15e07f1", func := "voxel/voxellaw26.ApplyMatchesSpec", spec := "applyMatchesSpec", unfollowed := true, recurses := true, named := ["voxel/edit.rows", "voxel/point.axes", "voxel/fill.steps"], plainKeys := false, apart := false, laid := [("voxel/point.axes", laid_voxel_point_axes), ("voxel/fill.steps", laid_voxel_fill_steps), ("voxel/edit.rows", laid_voxel_edit_rows)] }
def ApplyMatchesSpecSaid : Prop := applyMatchesSpecRow.holds Tryz.pinned (OpenSpec.ofChange applyMatchesSpecSpec)

/-- ITS FALSE NEIGHBOUR: 'it returns false'. Refute it at one input. -/
def applyMatchesSpecWrong : ChangeSpec := { name := "applyMatchesSpec", fn := fun _ => fun
  | [d1, d2, d3, d4, d5] => { results := [.lit (.bool false)], args := [d1, d2, d3, d4, d5] }
  | _ => none }
def ApplyMatchesSpecWrongFalsely : Prop := applyMatchesSpecRow.holds Tryz.pinned (OpenSpec.ofChange applyMatchesSpecWrong)

/-- 'voxellaw26.ApplyListsMatchSpec': WHATEVER THE INPUT: true; the input reads as it did. -/
def applyListsMatchSpecSpec : ChangeSpec := { name := "applyListsMatchSpec", fn := fun _ => fun
  | [d1, d2] => { results := [.lit (.bool true)], args := [d1, d2] }
  | _ => none }
def applyListsMatchSpecRow : OpenClaim := { program := "ytoecbicdahbccaagreatdoor", sum := "e7aabd77bae9fda137d4b1dd6bf8c372d7a60041cafebfa5d5abcd4df15e07f1", func := "voxel/voxellaw26.ApplyListsMatchSpec", spec := "applyListsMatchSpec", unfollowed := true, recurses := true, named := ["voxel/edit.rows", "voxel/point.axes", "voxel/fill.steps"], plainKeys := false, apart := false, laid := [("voxel/point.axes", laid_voxel_point_axes), ("voxel/fill.steps", laid_voxel_fill_steps), ("voxel/edit.rows", laid_voxel_edit_rows)] }
def ApplyListsMatchSpecSaid : Prop := applyListsMatchSpecRow.holds Tryz.pinned (OpenSpec.ofChange applyListsMatchSpecSpec)

/-- ITS FALSE NEIGHBOUR: 'it returns false'. Refute it at one input. -/
def applyListsMatchSpecWrong : ChangeSpec := { name := "applyListsMatchSpec", fn := fun _ => fun
  | [d1, d2] => { results := [.lit (.bool false)], args := [d1, d2] }
  | _ => none }
def ApplyListsMatchSpecWrongFalsely : Prop := applyListsMatchSpecRow.holds Tryz.pinned (OpenSpec.ofChange applyListsMatchSpecWrong)

/-- 'voxellaw26.ApplyStaysInBounds': WHATEVER THE INPUT: true; the input reads as it did. -/
def applyStaysInBoundsSpec : ChangeSpec := { name := "applyStaysInBounds", fn := fun _ => fun
  | [d1, d2, d3, d4] => { results := [.lit (.bool true)], args := [d1, d2, d3, d4] }
  | _ => none }
def applyStaysInBoundsRow : OpenClaim := { program := "ytoecbicdahbccaagreatdoor", sum := "e7aabd77bae9fda137d4b1dd6bf8c372d7a60041cafebfa5d5abcd4df15e07f1", func := "voxel/voxellaw26.ApplyStaysInBounds", spec := "applyStaysInBounds", unfollowed := true, recurses := true, named := ["voxel/edit.rows", "voxel/point.axes", "voxel/fill.steps"], plainKeys := false, apart := false, laid := [("voxel/point.axes", laid_voxel_point_axes), ("voxel/fill.steps", laid_voxel_fill_steps), ("voxel/edit.rows", laid_voxel_edit_rows)] }
def ApplyStaysInBoundsSaid : Prop := applyStaysInBoundsRow.holds Tryz.pinned (OpenSpec.ofChange applyStaysInBoundsSpec)

/-- ITS FALSE NEIGHBOUR: 'it returns false'. Refute it at one input. -/
def applyStaysInBoundsWrong : ChangeSpec := { name := "applyStaysInBounds", fn := fun _ => fun
  | [d1, d2, d3, d4] => { results := [.lit (.bool false)], args := [d1, d2, d3, d4] }
  | _ => none }
def ApplyStaysInBoundsWrongFalsely : Prop := applyStaysInBoundsRow.holds Tryz.pinned (OpenSpec.ofChange applyStaysInBoundsWrong)

/-- 'voxellaw26.ApplyTwice': WHATEVER THE INPUT: true; the input reads as it did. -/
def applyTwiceSpec : ChangeSpec := { name := "applyTwice", fn := fun _ => fun
  | [d1, d2, d3, d4] => { results := [.lit (.bool true)], args := [d1, d2, d3, d4] }
  | _ => none }
def applyTwiceRow : OpenClaim := { program := "ytoecbicdahbccaagreatdoor", sum := "e7aabd77bae9fda137d4b1dd6bf8c372d7a60041cafebfa5d5abcd4df15e07f1", func := "voxel/voxellaw26.ApplyTwice", spec := "applyTwice", unfollowed := true, recurses := true, named := ["voxel/edit.rows", "voxel/point.axes", "voxel/fill.steps"], plainKeys := false, apart := false, laid := [("voxel/point.axes", laid_voxel_point_axes), ("voxel/fill.steps", laid_voxel_fill_steps), ("voxel/edit.rows", laid_voxel_edit_rows)] }
def ApplyTwiceSaid : Prop := applyTwiceRow.holds Tryz.pinned (OpenSpec.ofChange applyTwiceSpec)

/-- ITS FALSE NEIGHBOUR: 'it returns false'. Refute it at one input. -/
def applyTwiceWrong : ChangeSpec := { name := "applyTwice", fn := fun _ => fun
  | [d1, d2, d3, d4] => { results := [.lit (.bool false)], args := [d1, d2, d3, d4] }
  | _ => none }
def ApplyTwiceWrongFalsely : Prop := applyTwiceRow.holds Tryz.pinned (OpenSpec.ofChange applyTwiceWrong)

/-- 'voxellaw26.ApplyReverts': WHATEVER THE INPUT: true; the input reads as it did. -/
def applyRevertsSpec : ChangeSpec := { name := "applyReverts", fn := fun _ => fun
  | [d1, d2, d3, d4, d5, d6] => { results := [.lit (.bool true)], args := [d1, d2, d3, d4, d5, d6] }
  | _ => none }
def applyRevertsRow : OpenClaim := { program := "ytoecbicdahbccaagreatdoor", sum := "e7aabd77bae9fda137d4b1dd6bf8c372d7a60041cafebfa5d5abcd4df15e07f1", func := "voxel/voxellaw26.ApplyReverts", spec := "applyReverts", unfollowed := true, recurses := true, named := ["voxel/edit.rows", "voxel/point.axes", "voxel/fill.steps"], plainKeys := false, apart := false, laid := [("voxel/point.axes", laid_voxel_point_axes), ("voxel/fill.steps", laid_voxel_fill_steps), ("voxel/edit.rows", laid_voxel_edit_rows)] }
def ApplyRevertsSaid : Prop := applyRevertsRow.holds Tryz.pinned (OpenSpec.ofChange applyRevertsSpec)

/-- ITS FALSE NEIGHBOUR: 'it returns false'. Refute it at one input. -/
def applyRevertsWrong : ChangeSpec := { name := "applyReverts", fn := fun _ => fun
  | [d1, d2, d3, d4, d5, d6] => { results := [.lit (.bool false)], args := [d1, d2, d3, d4, d5, d6] }
  | _ => none }
def ApplyRevertsWrongFalsely : Prop := applyRevertsRow.holds Tryz.pinned (OpenSpec.ofChange applyRevertsWrong)

/-- 'voxellaw26.ApplyFillIsFresh': WHATEVER THE INPUT: true; the input reads as it did. -/
def applyFillIsFreshSpec : ChangeSpec := { name := "applyFillIsFresh", fn := fun _ => fun
  | [d1, d2, d3, d4, d5] => { results := [.lit (.bool true)], args := [d1, d2, d3, d4, d5] }
  | _ => none }
def applyFillIsFreshRow : OpenClaim := { program := "ytoecbicdahbccaagreatdoor", sum := "e7aabd77bae9fda137d4b1dd6bf8c372d7a60041cafebfa5d5abcd4df15e07f1", func := "voxel/voxellaw26.ApplyFillIsFresh", spec := "applyFillIsFresh", unfollowed := true, recurses := true, named := ["voxel/edit.rows", "voxel/point.axes", "voxel/fill.steps"], plainKeys := false, apart := false, laid := [("voxel/point.axes", laid_voxel_point_axes), ("voxel/fill.steps", laid_voxel_fill_steps), ("voxel/edit.rows", laid_voxel_edit_rows)] }
def ApplyFillIsFreshSaid : Prop := applyFillIsFreshRow.holds Tryz.pinned (OpenSpec.ofChange applyFillIsFreshSpec)

/-- ITS FALSE NEIGHBOUR: 'it returns false'. Refute it at one input. -/
def applyFillIsFreshWrong : ChangeSpec := { name := "applyFillIsFresh", fn := fun _ => fun
  | [d1, d2, d3, d4, d5] => { results := [.lit (.bool false)], args := [d1, d2, d3, d4, d5] }
  | _ => none }
def ApplyFillIsFreshWrongFalsely : Prop := applyFillIsFreshRow.holds Tryz.pinned (OpenSpec.ofChange applyFillIsFreshWrong)

/- THE SECOND FORM. 'bulk': how many values and letters a reading holds, each counted each time it is reached (what is shared counts as often as it is met; a slice's spare places count too). A statement '..UptoSaid' is the law's where the arguments, and the package variables that the reading takes, are together of bulk at most 1048576: NARROWER than '..Said'. Prove '..Said' where nothing that the law and all that it calls make is longer than what came in: it says more and counts as full. Else prove '..UptoSaid'. A law counts once. -/
mutual
def uptoBulk {H : Type} : DataW H → Nat
  | .lit (.string bytes) => bytes.length + 1
  | .lit _ => 1
  | .nil => 1
  | .ptr d => uptoBulk d + 1
  | .slice elems spare => uptoBulkAll elems + uptoBulkAll spare + 1
  | .agg parts => uptoBulkAll parts + 1
  | .iface _ d => uptoBulk d + 1
  | .map entries => uptoBulkEntries entries + 1
  | .held _ => 1
def uptoBulkAll {H : Type} : List (DataW H) → Nat
  | [] => 0
  | d :: r => uptoBulk d + uptoBulkAll r
def uptoBulkEntries {H : Type} : List (Lit × DataW H) → Nat
  | [] => 0
  | x :: r => uptoBulkEntry x + uptoBulkEntries r
def uptoBulkEntry {H : Type} : Lit × DataW H → Nat
  | (.string bytes, d) => bytes.length + uptoBulk d + 1
  | (_, d) => uptoBulk d + 1
 end
def uptoSmall : (H : Type) → List (DataW H) → Bool := fun _ ds => decide (uptoBulkAll ds ≤ 1048576)
def OpenSpec.upto (s : _root_.Go.ChangeSpec) : _root_.Go.OpenSpec := { _root_.Go.OpenSpec.ofChange s with cond := some uptoSmall }

/-- 'voxellaw26.ApplyMatchesSpec', WHERE WHAT IT READS IS OF BULK AT MOST 1048576: true; the input reads as it did. -/
def applyMatchesSpecUptoRow : OpenClaim := { program := "ytoecbicdahbccaagreatdoor", sum := "e7aabd77bae9fda137d4b1dd6bf8c372d7a60041cafebfa5d5abcd4df15e07f1", func := "voxel/voxellaw26.ApplyMatchesSpec", spec := "applyMatchesSpec", unfollowed := true, recurses := true, named := ["voxel/edit.rows", "voxel/point.axes", "voxel/fill.steps"], plainKeys := false, apart := false, laid := [("voxel/point.axes", laid_voxel_point_axes), ("voxel/fill.steps", laid_voxel_fill_steps), ("voxel/edit.rows", laid_voxel_edit_rows)], narrowed := true }
def ApplyMatchesSpecUptoSaid : Prop := applyMatchesSpecUptoRow.holds Tryz.pinned (OpenSpec.upto applyMatchesSpecSpec)

/-- 'voxellaw26.ApplyListsMatchSpec', WHERE WHAT IT READS IS OF BULK AT MOST 1048576: true; the input reads as it did. -/
def applyListsMatchSpecUptoRow : OpenClaim := { program := "ytoecbicdahbccaagreatdoor", sum := "e7aabd77bae9fda137d4b1dd6bf8c372d7a60041cafebfa5d5abcd4df15e07f1", func := "voxel/voxellaw26.ApplyListsMatchSpec", spec := "applyListsMatchSpec", unfollowed := true, recurses := true, named := ["voxel/edit.rows", "voxel/point.axes", "voxel/fill.steps"], plainKeys := false, apart := false, laid := [("voxel/point.axes", laid_voxel_point_axes), ("voxel/fill.steps", laid_voxel_fill_steps), ("voxel/edit.rows", laid_voxel_edit_rows)], narrowed := true }
def ApplyListsMatchSpecUptoSaid : Prop := applyListsMatchSpecUptoRow.holds Tryz.pinned (OpenSpec.upto applyListsMatchSpecSpec)

/-- 'voxellaw26.ApplyStaysInBounds', WHERE WHAT IT READS IS OF BULK AT MOST 1048576: true; the input reads as it did. -/
def applyStaysInBoundsUptoRow : OpenClaim := { program := "ytoecbicdahbccaagreatdoor", sum := "e7aabd77bae9fda137d4b1dd6bf8c372d7a60041cafebfa5d5abcd4df15e07f1", func := "voxel/voxellaw26.ApplyStaysInBounds", spec := "applyStaysInBounds", unfollowed := true, recurses := true, named := ["voxel/edit.rows", "voxel/point.axes", "voxel/fill.steps"], plainKeys := false, apart := false, laid := [("voxel/point.axes", laid_voxel_point_axes), ("voxel/fill.steps", laid_voxel_fill_steps), ("voxel/edit.rows", laid_voxel_edit_rows)], narrowed := true }
def ApplyStaysInBoundsUptoSaid : Prop := applyStaysInBoundsUptoRow.holds Tryz.pinned (OpenSpec.upto applyStaysInBoundsSpec)

/-- 'voxellaw26.ApplyTwice', WHERE WHAT IT READS IS OF BULK AT MOST 1048576: true; the input reads as it did. -/
def applyTwiceUptoRow : OpenClaim := { program := "ytoecbicdahbccaagreatdoor", sum := "e7aabd77bae9fda137d4b1dd6bf8c372d7a60041cafebfa5d5abcd4df15e07f1", func := "voxel/voxellaw26.ApplyTwice", spec := "applyTwice", unfollowed := true, recurses := true, named := ["voxel/edit.rows", "voxel/point.axes", "voxel/fill.steps"], plainKeys := false, apart := false, laid := [("voxel/point.axes", laid_voxel_point_axes), ("voxel/fill.steps", laid_voxel_fill_steps), ("voxel/edit.rows", laid_voxel_edit_rows)], narrowed := true }
def ApplyTwiceUptoSaid : Prop := applyTwiceUptoRow.holds Tryz.pinned (OpenSpec.upto applyTwiceSpec)

/-- 'voxellaw26.ApplyReverts', WHERE WHAT IT READS IS OF BULK AT MOST 1048576: true; the input reads as it did. -/
def applyRevertsUptoRow : OpenClaim := { program := "ytoecbicdahbccaagreatdoor", sum := "e7aabd77bae9fda137d4b1dd6bf8c372d7a60041cafebfa5d5abcd4df15e07f1", func := "voxel/voxellaw26.ApplyReverts", spec := "applyReverts", unfollowed := true, recurses := true, named := ["voxel/edit.rows", "voxel/point.axes", "voxel/fill.steps"], plainKeys := false, apart := false, laid := [("voxel/point.axes", laid_voxel_point_axes), ("voxel/fill.steps", laid_voxel_fill_steps), ("voxel/edit.rows", laid_voxel_edit_rows)], narrowed := true }
def ApplyRevertsUptoSaid : Prop := applyRevertsUptoRow.holds Tryz.pinned (OpenSpec.upto applyRevertsSpec)

/-- 'voxellaw26.ApplyFillIsFresh', WHERE WHAT IT READS IS OF BULK AT MOST 1048576: true; the input reads as it did. -/
def applyFillIsFreshUptoRow : OpenClaim := { program := "ytoecbicdahbccaagreatdoor", sum := "e7aabd77bae9fda137d4b1dd6bf8c372d7a60041cafebfa5d5abcd4df15e07f1", func := "voxel/voxellaw26.ApplyFillIsFresh", spec := "applyFillIsFresh", unfollowed := true, recurses := true, named := ["voxel/edit.rows", "voxel/point.axes", "voxel/fill.steps"], plainKeys := false, apart := false, laid := [("voxel/point.axes", laid_voxel_point_axes), ("voxel/fill.steps", laid_voxel_fill_steps), ("voxel/edit.rows", laid_voxel_edit_rows)], narrowed := true }
def ApplyFillIsFreshUptoSaid : Prop := applyFillIsFreshUptoRow.holds Tryz.pinned (OpenSpec.upto applyFillIsFreshSpec)

end Rows
end Go.Proofs.YtoecbicdahbccaaGreatDoor
