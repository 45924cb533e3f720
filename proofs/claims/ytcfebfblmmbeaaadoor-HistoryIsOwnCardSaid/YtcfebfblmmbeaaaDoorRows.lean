/-
  NARROWER THAN 'FOR EVERY INPUT', by the rows' own cells (each row's printed sentence says how): HistoryMatchesSpec: laid · HistoryIsOrderFree: laid · HistoryIsOwn: laid · HistoryUndoes: laid · HistoryForksStay: laid.
  DERIVED. THE GIVEN ROWS OF THIS SEAT. 5 by the template 'for every input the law returns true; each argument reads behind the call as it read before'; 0 by the template 'total and deterministic' (their statements: YtcfebfblmmbeaaaDoorTotals.lean).
  GIVEN WITH THE SEED: the statements are not yours to turn. If you find one false, say at which input.
  Laid BY PROGRAM, IN A SANDBOX (cutbox-rows.mjs): the forced cells as the released guide's own fill.sh prints them over the translation c3c85fea28cabacb… (all of the seat's roots in one cut). By AI agents, Wed Nov 11 2026. No macro, syntax, notation, axiom, sorry.
-/
import Derived.Test.YtcfebfblmmbeaaaDoorChecked
import GoSem.Claim
import GoSem.ClaimJoined
import GoSem.ClaimMapViews
import Derived.JoinedTies
import Derived.KernelRfl
namespace Go.Proofs.YtcfebfblmmbeaaaDoor
/- THE CELL 'sum', in the pinned program and in every row, IS THE sha256 OF THE DUMP (.gsa) THAT YtcfebfblmmbeaaaDoorProg.lean LOADS. Nothing in Lean hashes anything: it is a label: what it is worth is what the hold of that sum in a sandbox is worth. -/
noncomputable def Tryd.pinned : Pinned := { name := "ytcfebfblmmbeaaadoor", sum := "c3c85fea28cabacb18164c5146fc97d4af477eef31533c1db13672c71a4304a9", checked := Tryd.checked }
namespace Rows
def none {H : Type} : Left H := { results := [], args := [] }

/- WHAT THE LISTED PACKAGE-LEVEL VARIABLES READ AS WHEN THE CALL BEGINS. Each datum BY PROGRAM (the guide's laid-datum.mjs) off the statement by which the dump's own 'gosem.cut.vars' lays the variable. In a bare row this is a premise. The card (YtcfebfblmmbeaaaDoorCards.lean) ties it to the program's text. -/
def laid_voxel_edit_rows {H : Type} : DataW H := .agg [.agg [.lit (.string []), .lit (.int .i64 0)], .agg [.lit (.string [98, 111, 120]), .lit (.int .i64 9)], .agg [.lit (.string [98, 97, 108, 108]), .lit (.int .i64 26)], .agg [.lit (.string [112, 114, 105, 115, 109]), .lit (.int .i64 13)], .agg [.lit (.string [99, 111, 112, 121]), .lit (.int .i64 7)], .agg [.lit (.string [102, 105, 108, 108]), .lit (.int .i64 26)], .agg [.lit (.string [117, 110, 100, 111]), .lit (.int .i64 16)], .agg [.lit (.string [108, 111, 99, 107]), .lit (.int .i64 17)], .agg [.lit (.string [117, 110, 108, 111, 99, 107]), .lit (.int .i64 16)]]

/-- 'voxellaw27.HistoryMatchesSpec': WHATEVER THE INPUT: true; the input reads as it did. -/
def historyMatchesSpecSpec : ChangeSpec := { name := "historyMatchesSpec", fn := fun _ => fun
  | [d1, d2, d3, d4] => { results := [.lit (.bool true)], args := [d1, d2, d3, d4] }
  | _ => none }
def historyMatchesSpecRow : OpenClaim := { program := "ytcfebfblmmbeaaadoor", sum := "c3c85fea28cabacb18164c5146fc97d4af477eef31533c1db13672c71a4304a9", func := "voxel/voxellaw27.HistoryMatchesSpec", spec := "historyMatchesSpec", unfollowed := true, recurses := true, named := ["voxel/edit.rows"], plainKeys := false, apart := false, laid := [("voxel/edit.rows", laid_voxel_edit_rows)] }
def HistoryMatchesSpecSaid : Prop := historyMatchesSpecRow.holds Tryd.pinned (OpenSpec.ofChange historyMatchesSpecSpec)

/-- ITS FALSE NEIGHBOUR: 'it returns false'. Refute it at one input. -/
def historyMatchesSpecWrong : ChangeSpec := { name := "historyMatchesSpec", fn := fun _ => fun
  | [d1, d2, d3, d4] => { results := [.lit (.bool false)], args := [d1, d2, d3, d4] }
  | _ => none }
def HistoryMatchesSpecWrongFalsely : Prop := historyMatchesSpecRow.holds Tryd.pinned (OpenSpec.ofChange historyMatchesSpecWrong)

/-- 'voxellaw27.HistoryIsOrderFree': WHATEVER THE INPUT: true; the input reads as it did. -/
def historyIsOrderFreeSpec : ChangeSpec := { name := "historyIsOrderFree", fn := fun _ => fun
  | [d1, d2, d3] => { results := [.lit (.bool true)], args := [d1, d2, d3] }
  | _ => none }
def historyIsOrderFreeRow : OpenClaim := { program := "ytcfebfblmmbeaaadoor", sum := "c3c85fea28cabacb18164c5146fc97d4af477eef31533c1db13672c71a4304a9", func := "voxel/voxellaw27.HistoryIsOrderFree", spec := "historyIsOrderFree", unfollowed := true, recurses := true, named := ["voxel/edit.rows"], plainKeys := false, apart := false, laid := [("voxel/edit.rows", laid_voxel_edit_rows)] }
def HistoryIsOrderFreeSaid : Prop := historyIsOrderFreeRow.holds Tryd.pinned (OpenSpec.ofChange historyIsOrderFreeSpec)

/-- ITS FALSE NEIGHBOUR: 'it returns false'. Refute it at one input. -/
def historyIsOrderFreeWrong : ChangeSpec := { name := "historyIsOrderFree", fn := fun _ => fun
  | [d1, d2, d3] => { results := [.lit (.bool false)], args := [d1, d2, d3] }
  | _ => none }
def HistoryIsOrderFreeWrongFalsely : Prop := historyIsOrderFreeRow.holds Tryd.pinned (OpenSpec.ofChange historyIsOrderFreeWrong)

/-- 'voxellaw27.HistoryIsOwn': WHATEVER THE INPUT: true; the input reads as it did. -/
def historyIsOwnSpec : ChangeSpec := { name := "historyIsOwn", fn := fun _ => fun
  | [d1, d2] => { results := [.lit (.bool true)], args := [d1, d2] }
  | _ => none }
def historyIsOwnRow : OpenClaim := { program := "ytcfebfblmmbeaaadoor", sum := "c3c85fea28cabacb18164c5146fc97d4af477eef31533c1db13672c71a4304a9", func := "voxel/voxellaw27.HistoryIsOwn", spec := "historyIsOwn", unfollowed := true, recurses := true, named := ["voxel/edit.rows"], plainKeys := false, apart := false, laid := [("voxel/edit.rows", laid_voxel_edit_rows)] }
def HistoryIsOwnSaid : Prop := historyIsOwnRow.holds Tryd.pinned (OpenSpec.ofChange historyIsOwnSpec)

/-- ITS FALSE NEIGHBOUR: 'it returns false'. Refute it at one input. -/
def historyIsOwnWrong : ChangeSpec := { name := "historyIsOwn", fn := fun _ => fun
  | [d1, d2] => { results := [.lit (.bool false)], args := [d1, d2] }
  | _ => none }
def HistoryIsOwnWrongFalsely : Prop := historyIsOwnRow.holds Tryd.pinned (OpenSpec.ofChange historyIsOwnWrong)

/-- 'voxellaw27.HistoryUndoes': WHATEVER THE INPUT: true; the input reads as it did. -/
def historyUndoesSpec : ChangeSpec := { name := "historyUndoes", fn := fun _ => fun
  | [d1, d2] => { results := [.lit (.bool true)], args := [d1, d2] }
  | _ => none }
def historyUndoesRow : OpenClaim := { program := "ytcfebfblmmbeaaadoor", sum := "c3c85fea28cabacb18164c5146fc97d4af477eef31533c1db13672c71a4304a9", func := "voxel/voxellaw27.HistoryUndoes", spec := "historyUndoes", unfollowed := true, recurses := true, named := ["voxel/edit.rows"], plainKeys := false, apart := false, laid := [("voxel/edit.rows", laid_voxel_edit_rows)] }
def HistoryUndoesSaid : Prop := historyUndoesRow.holds Tryd.pinned (OpenSpec.ofChange historyUndoesSpec)

/-- ITS FALSE NEIGHBOUR: 'it returns false'. Refute it at one input. -/
def historyUndoesWrong : ChangeSpec := { name := "historyUndoes", fn := fun _ => fun
  | [d1, d2] => { results := [.lit (.bool false)], args := [d1, d2] }
  | _ => none }
def HistoryUndoesWrongFalsely : Prop := historyUndoesRow.holds Tryd.pinned (OpenSpec.ofChange historyUndoesWrong)

/-- 'voxellaw27.HistoryForksStay': WHATEVER THE INPUT: true; the input reads as it did. -/
def historyForksStaySpec : ChangeSpec := { name := "historyForksStay", fn := fun _ => fun
  | [d1, d2] => { results := [.lit (.bool true)], args := [d1, d2] }
  | _ => none }
def historyForksStayRow : OpenClaim := { program := "ytcfebfblmmbeaaadoor", sum := "c3c85fea28cabacb18164c5146fc97d4af477eef31533c1db13672c71a4304a9", func := "voxel/voxellaw27.HistoryForksStay", spec := "historyForksStay", unfollowed := true, recurses := true, named := ["voxel/edit.rows"], plainKeys := false, apart := false, laid := [("voxel/edit.rows", laid_voxel_edit_rows)] }
def HistoryForksStaySaid : Prop := historyForksStayRow.holds Tryd.pinned (OpenSpec.ofChange historyForksStaySpec)

/-- ITS FALSE NEIGHBOUR: 'it returns false'. Refute it at one input. -/
def historyForksStayWrong : ChangeSpec := { name := "historyForksStay", fn := fun _ => fun
  | [d1, d2] => { results := [.lit (.bool false)], args := [d1, d2] }
  | _ => none }
def HistoryForksStayWrongFalsely : Prop := historyForksStayRow.holds Tryd.pinned (OpenSpec.ofChange historyForksStayWrong)

/- THE SECOND FORM. 'bulk': how many values and letters a reading holds, each counted each time it is reached (what is shared counts as often as it is met; a slice's spare places count too). A statement '..UptoSaid' is the law's where the arguments, and the package variables that the reading takes, are together of bulk at most 1048576: NARROWER than '..Said'. Prove '..Said' where nothing that the law and all that it calls make is longer than what came in: it says more and counts as full. Else prove '..UptoSaid'. A law counts once. -/
mutual
def uptoBulk {H : Type} : DataW H → Nat
  | .lit (.string bytes) => bytes.length + 1
  | .lit _ => 1
  | .nil => 1
  | .ptr d => uptoBulk d + 1
  | .slice elems spare => uptoBulkAll elems + uptoBulkAll spare + 1
  | .agg parts => uptoBulkAll parts + 1
  | .iface _ d => uptoBulk d + 1
  | .map entries => uptoBulkEntries entries + 1
  | .held _ => 1
def uptoBulkAll {H : Type} : List (DataW H) → Nat
  | [] => 0
  | d :: r => uptoBulk d + uptoBulkAll r
def uptoBulkEntries {H : Type} : List (Lit × DataW H) → Nat
  | [] => 0
  | x :: r => uptoBulkEntry x + uptoBulkEntries r
def uptoBulkEntry {H : Type} : Lit × DataW H → Nat
  | (.string bytes, d) => bytes.length + uptoBulk d + 1
  | (_, d) => uptoBulk d + 1
 end
def uptoSmall : (H : Type) → List (DataW H) → Bool := fun _ ds => decide (uptoBulkAll ds ≤ 1048576)
def OpenSpec.upto (s : _root_.Go.ChangeSpec) : _root_.Go.OpenSpec := { _root_.Go.OpenSpec.ofChange s with cond := some uptoSmall }

/-- 'voxellaw27.HistoryMatchesSpec', WHERE WHAT IT READS IS OF BULK AT MOST 1048576: true; the input reads as it did. -/
def historyMatchesSpecUptoRow : OpenClaim := { program := "ytcfebfblmmbeaaadoor", sum := "c3c85fea28cabacb18164c5146fc97d4af477eef31533c1db13672c71a4304a9", func := "voxel/voxellaw27.HistoryMatchesSpec", spec := "historyMatchesSpec", unfollowed := true, recurses := true, named := ["voxel/edit.rows"], plainKeys := false, apart := false, laid := [("voxel/edit.rows", laid_voxel_edit_rows)], narrowed := true }
def HistoryMatchesSpecUptoSaid : Prop := historyMatchesSpecUptoRow.holds Tryd.pinned (OpenSpec.upto historyMatchesSpecSpec)

/-- 'voxellaw27.HistoryIsOrderFree', WHERE WHAT IT READS IS OF BULK AT MOST 1048576: true; the input reads as it did. -/
def historyIsOrderFreeUptoRow : OpenClaim := { program := "ytcfebfblmmbeaaadoor", sum := "c3c85fea28cabacb18164c5146fc97d4af477eef31533c1db13672c71a4304a9", func := "voxel/voxellaw27.HistoryIsOrderFree", spec := "historyIsOrderFree", unfollowed := true, recurses := true, named := ["voxel/edit.rows"], plainKeys := false, apart := false, laid := [("voxel/edit.rows", laid_voxel_edit_rows)], narrowed := true }
def HistoryIsOrderFreeUptoSaid : Prop := historyIsOrderFreeUptoRow.holds Tryd.pinned (OpenSpec.upto historyIsOrderFreeSpec)

/-- 'voxellaw27.HistoryIsOwn', WHERE WHAT IT READS IS OF BULK AT MOST 1048576: true; the input reads as it did. -/
def historyIsOwnUptoRow : OpenClaim := { program := "ytcfebfblmmbeaaadoor", sum := "c3c85fea28cabacb18164c5146fc97d4af477eef31533c1db13672c71a4304a9", func := "voxel/voxellaw27.HistoryIsOwn", spec := "historyIsOwn", unfollowed := true, recurses := true, named := ["voxel/edit.rows"], plainKeys := false, apart := false, laid := [("voxel/edit.rows", laid_voxel_edit_rows)], narrowed := true }
def HistoryIsOwnUptoSaid : Prop := historyIsOwnUptoRow.holds Tryd.pinned (OpenSpec.upto historyIsOwnSpec)

/-- 'voxellaw27.HistoryUndoes', WHERE WHAT IT READS IS OF BULK AT MOST 1048576: true; the input reads as it did. -/
def historyUndoesUptoRow : OpenClaim := { program := "ytcfebfblmmbeaaadoor", sum := "c3c85fea28cabacb18164c5146fc97d4af477eef31533c1db13672c71a4304a9", func := "voxel/voxellaw27.HistoryUndoes", spec := "historyUndoes", unfollowed := true, recurses := true, named := ["voxel/edit.rows"], plainKeys := false, apart := false, laid := [("voxel/edit.rows", laid_voxel_edit_rows)], narrowed := true }
def HistoryUndoesUptoSaid : Prop := historyUndoesUptoRow.holds Tryd.pinned (OpenSpec.upto historyUndoesSpec)

/-- 'voxellaw27.HistoryForksStay', WHERE WHAT IT READS IS OF BULK AT MOST 1048576: true; the input reads as it did. -/
def historyForksStayUptoRow : OpenClaim := { program := "ytcfebfblmmbeaaadoor", sum := "c3c85fea28cabacb18164c5146fc97d4af477eef31533c1db13672c71a4304a9", func := "voxel/voxellaw27.HistoryForksStay", spec := "historyForksStay", unfollowed := true, recurses := true, named := ["voxel/edit.rows"], plainKeys := false, apart := false, laid := [("voxel/edit.rows", laid_voxel_edit_rows)], narrowed := true }
def HistoryForksStayUptoSaid : Prop := historyForksStayUptoRow.holds Tryd.pinned (OpenSpec.upto historyForksStaySpec)

end Rows
end Go.Proofs.YtcfebfblmmbeaaaDoor
