/-
  NARROWER THAN 'FOR EVERY INPUT', by the rows' own cells (each row's printed sentence says how): FillMatchesSpec: laid · FillSetsMatchSpec: laid · FillAsksLittle: laid · FillRegions: laid · FillIsCutOff: laid.
  DERIVED. THE GIVEN ROWS OF THIS SEAT. 5 by the template 'for every input the law returns true; each argument reads behind the call as it read before'; 0 by the template 'total and deterministic' (their statements: YtelhefjikdoihaaDoorTotals.lean).
  GIVEN WITH THE SEED: the statements are not yours to turn. If you find one false, say at which input.
  Laid BY PROGRAM, IN A SANDBOX (cutbox-rows.mjs): the forced cells as the released guide's own fill.sh prints them over the translation 5deae9b6e47d0ecf… (all of the seat's roots in one cut). By AI agents, Wed Nov 11 2026. No macro, syntax, notation, axiom, sorry.
-/
import Derived.Test.YtelhefjikdoihaaDoorChecked
import GoSem.Claim
import GoSem.ClaimJoined
import GoSem.ClaimMapViews
import Derived.JoinedTies
import Derived.KernelRfl
namespace Go.Proofs.YtelhefjikdoihaaDoor
/- THE CELL 'sum', in the pinned program and in every row, IS THE sha256 OF THE DUMP (.gsa) THAT YtelhefjikdoihaaDoorProg.lean LOADS. Nothing in Lean hashes anything: it is a label: what it is worth is what the hold of that sum in a sandbox is worth. -/
noncomputable def Tryd.pinned : Pinned := { name := "ytelhefjikdoihaadoor", sum := "5deae9b6e47d0ecfd0c98069274f02e3c041bf382e1f9c89743c3fd2c6ad73d9", checked := Tryd.checked }
namespace Rows
def none {H : Type} : Left H := { results := [], args := [] }

/- WHAT THE LISTED PACKAGE-LEVEL VARIABLES READ AS WHEN THE CALL BEGINS. Each datum BY PROGRAM (the guide's laid-datum.mjs) off the statement by which the dump's own 'gosem.cut.vars' lays the variable. In a bare row this is a premise. The card (YtelhefjikdoihaaDoorCards.lean) ties it to the program's text. -/
def laid_voxel_fill_steps {H : Type} : DataW H := .agg [.agg [.lit (.int .i64 1), .lit (.int .i64 0), .lit (.int .i64 0)], .agg [.lit (.int .i64 (-1)), .lit (.int .i64 0), .lit (.int .i64 0)], .agg [.lit (.int .i64 0), .lit (.int .i64 1), .lit (.int .i64 0)], .agg [.lit (.int .i64 0), .lit (.int .i64 (-1)), .lit (.int .i64 0)], .agg [.lit (.int .i64 0), .lit (.int .i64 0), .lit (.int .i64 1)], .agg [.lit (.int .i64 0), .lit (.int .i64 0), .lit (.int .i64 (-1))]]

/-- 'voxellaw21.FillMatchesSpec': WHATEVER THE INPUT: true; the input reads as it did. -/
def fillMatchesSpecSpec : ChangeSpec := { name := "fillMatchesSpec", fn := fun _ => fun
  | [d1, d2, d3, d4] => { results := [.lit (.bool true)], args := [d1, d2, d3, d4] }
  | _ => none }
def fillMatchesSpecRow : OpenClaim := { program := "ytelhefjikdoihaadoor", sum := "5deae9b6e47d0ecfd0c98069274f02e3c041bf382e1f9c89743c3fd2c6ad73d9", func := "voxel/voxellaw21.FillMatchesSpec", spec := "fillMatchesSpec", unfollowed := true, recurses := true, named := ["voxel/fill.steps"], plainKeys := false, apart := false, laid := [("voxel/fill.steps", laid_voxel_fill_steps)] }
def FillMatchesSpecSaid : Prop := fillMatchesSpecRow.holds Tryd.pinned (OpenSpec.ofChange fillMatchesSpecSpec)

/-- ITS FALSE NEIGHBOUR: 'it returns false'. Refute it at one input. -/
def fillMatchesSpecWrong : ChangeSpec := { name := "fillMatchesSpec", fn := fun _ => fun
  | [d1, d2, d3, d4] => { results := [.lit (.bool false)], args := [d1, d2, d3, d4] }
  | _ => none }
def FillMatchesSpecWrongFalsely : Prop := fillMatchesSpecRow.holds Tryd.pinned (OpenSpec.ofChange fillMatchesSpecWrong)

/-- 'voxellaw21.FillSetsMatchSpec': WHATEVER THE INPUT: true; the input reads as it did. -/
def fillSetsMatchSpecSpec : ChangeSpec := { name := "fillSetsMatchSpec", fn := fun _ => fun
  | [d] => { results := [.lit (.bool true)], args := [d] }
  | _ => none }
def fillSetsMatchSpecRow : OpenClaim := { program := "ytelhefjikdoihaadoor", sum := "5deae9b6e47d0ecfd0c98069274f02e3c041bf382e1f9c89743c3fd2c6ad73d9", func := "voxel/voxellaw21.FillSetsMatchSpec", spec := "fillSetsMatchSpec", unfollowed := true, recurses := true, named := ["voxel/fill.steps"], plainKeys := false, apart := false, laid := [("voxel/fill.steps", laid_voxel_fill_steps)] }
def FillSetsMatchSpecSaid : Prop := fillSetsMatchSpecRow.holds Tryd.pinned (OpenSpec.ofChange fillSetsMatchSpecSpec)

/-- ITS FALSE NEIGHBOUR: 'it returns false'. Refute it at one input. -/
def fillSetsMatchSpecWrong : ChangeSpec := { name := "fillSetsMatchSpec", fn := fun _ => fun
  | [d] => { results := [.lit (.bool false)], args := [d] }
  | _ => none }
def FillSetsMatchSpecWrongFalsely : Prop := fillSetsMatchSpecRow.holds Tryd.pinned (OpenSpec.ofChange fillSetsMatchSpecWrong)

/-- 'voxellaw21.FillAsksLittle': WHATEVER THE INPUT: true; the input reads as it did. -/
def fillAsksLittleSpec : ChangeSpec := { name := "fillAsksLittle", fn := fun _ => fun
  | [d1, d2, d3] => { results := [.lit (.bool true)], args := [d1, d2, d3] }
  | _ => none }
def fillAsksLittleRow : OpenClaim := { program := "ytelhefjikdoihaadoor", sum := "5deae9b6e47d0ecfd0c98069274f02e3c041bf382e1f9c89743c3fd2c6ad73d9", func := "voxel/voxellaw21.FillAsksLittle", spec := "fillAsksLittle", unfollowed := true, recurses := true, named := ["voxel/fill.steps"], plainKeys := false, apart := false, laid := [("voxel/fill.steps", laid_voxel_fill_steps)] }
def FillAsksLittleSaid : Prop := fillAsksLittleRow.holds Tryd.pinned (OpenSpec.ofChange fillAsksLittleSpec)

/-- ITS FALSE NEIGHBOUR: 'it returns false'. Refute it at one input. -/
def fillAsksLittleWrong : ChangeSpec := { name := "fillAsksLittle", fn := fun _ => fun
  | [d1, d2, d3] => { results := [.lit (.bool false)], args := [d1, d2, d3] }
  | _ => none }
def FillAsksLittleWrongFalsely : Prop := fillAsksLittleRow.holds Tryd.pinned (OpenSpec.ofChange fillAsksLittleWrong)

/-- 'voxellaw21.FillRegions': WHATEVER THE INPUT: true; the input reads as it did. -/
def fillRegionsSpec : ChangeSpec := { name := "fillRegions", fn := fun _ => fun
  | [d1, d2, d3] => { results := [.lit (.bool true)], args := [d1, d2, d3] }
  | _ => none }
def fillRegionsRow : OpenClaim := { program := "ytelhefjikdoihaadoor", sum := "5deae9b6e47d0ecfd0c98069274f02e3c041bf382e1f9c89743c3fd2c6ad73d9", func := "voxel/voxellaw21.FillRegions", spec := "fillRegions", unfollowed := true, recurses := true, named := ["voxel/fill.steps"], plainKeys := false, apart := false, laid := [("voxel/fill.steps", laid_voxel_fill_steps)] }
def FillRegionsSaid : Prop := fillRegionsRow.holds Tryd.pinned (OpenSpec.ofChange fillRegionsSpec)

/-- ITS FALSE NEIGHBOUR: 'it returns false'. Refute it at one input. -/
def fillRegionsWrong : ChangeSpec := { name := "fillRegions", fn := fun _ => fun
  | [d1, d2, d3] => { results := [.lit (.bool false)], args := [d1, d2, d3] }
  | _ => none }
def FillRegionsWrongFalsely : Prop := fillRegionsRow.holds Tryd.pinned (OpenSpec.ofChange fillRegionsWrong)

/-- 'voxellaw21.FillIsCutOff': WHATEVER THE INPUT: true; the input reads as it did. -/
def fillIsCutOffSpec : ChangeSpec := { name := "fillIsCutOff", fn := fun _ => fun
  | [d1, d2, d3, d4, d5] => { results := [.lit (.bool true)], args := [d1, d2, d3, d4, d5] }
  | _ => none }
def fillIsCutOffRow : OpenClaim := { program := "ytelhefjikdoihaadoor", sum := "5deae9b6e47d0ecfd0c98069274f02e3c041bf382e1f9c89743c3fd2c6ad73d9", func := "voxel/voxellaw21.FillIsCutOff", spec := "fillIsCutOff", unfollowed := true, recurses := true, named := ["voxel/fill.steps"], plainKeys := false, apart := false, laid := [("voxel/fill.steps", laid_voxel_fill_steps)] }
def FillIsCutOffSaid : Prop := fillIsCutOffRow.holds Tryd.pinned (OpenSpec.ofChange fillIsCutOffSpec)

/-- ITS FALSE NEIGHBOUR: 'it returns false'. Refute it at one input. -/
def fillIsCutOffWrong : ChangeSpec := { name := "fillIsCutOff", fn := fun _ => fun
  | [d1, d2, d3, d4, d5] => { results := [.lit (.bool false)], args := [d1, d2, d3, d4, d5] }
  | _ => none }
def FillIsCutOffWrongFalsely : Prop := fillIsCutOffRow.holds Tryd.pinned (OpenSpec.ofChange fillIsCutOffWrong)

/- THE SECOND FORM. 'bulk': how many values and letters a reading holds, each counted each time it is reached (what is shared counts as often as it is met; a slice's spare places count too). A statement '..UptoSaid' is the law's where the arguments, and the package variables that the reading takes, are together of bulk at most 1048576: NARROWER than '..Said'. Prove '..Said' where nothing that the law and all that it calls make is longer than what came in: it says more and counts as full. Else prove '..UptoSaid'. A law counts once. -/
mutual
def uptoBulk {H : Type} : DataW H → Nat
  | .lit (.string bytes) => bytes.length + 1
  | .lit _ => 1
  | .nil => 1
  | .ptr d => uptoBulk d + 1
  | .slice elems spare => uptoBulkAll elems + uptoBulkAll spare + 1
  | .agg parts => uptoBulkAll parts + 1
  | .iface _ d => uptoBulk d + 1
  | .map entries => uptoBulkEntries entries + 1
  | .held _ => 1
def uptoBulkAll {H : Type} : List (DataW H) → Nat
  | [] => 0
  | d :: r => uptoBulk d + uptoBulkAll r
def uptoBulkEntries {H : Type} : List (Lit × DataW H) → Nat
  | [] => 0
  | x :: r => uptoBulkEntry x + uptoBulkEntries r
def uptoBulkEntry {H : Type} : Lit × DataW H → Nat
  | (.string bytes, d) => bytes.length + uptoBulk d + 1
  | (_, d) => uptoBulk d + 1
 end
def uptoSmall : (H : Type) → List (DataW H) → Bool := fun _ ds => decide (uptoBulkAll ds ≤ 1048576)
def OpenSpec.upto (s : _root_.Go.ChangeSpec) : _root_.Go.OpenSpec := { _root_.Go.OpenSpec.ofChange s with cond := some uptoSmall }

/-- 'voxellaw21.FillMatchesSpec', WHERE WHAT IT READS IS OF BULK AT MOST 1048576: true; the input reads as it did. -/
def fillMatchesSpecUptoRow : OpenClaim := { program := "ytelhefjikdoihaadoor", sum := "5deae9b6e47d0ecfd0c98069274f02e3c041bf382e1f9c89743c3fd2c6ad73d9", func := "voxel/voxellaw21.FillMatchesSpec", spec := "fillMatchesSpec", unfollowed := true, recurses := true, named := ["voxel/fill.steps"], plainKeys := false, apart := false, laid := [("voxel/fill.steps", laid_voxel_fill_steps)], narrowed := true }
def FillMatchesSpecUptoSaid : Prop := fillMatchesSpecUptoRow.holds Tryd.pinned (OpenSpec.upto fillMatchesSpecSpec)

/-- 'voxellaw21.FillSetsMatchSpec', WHERE WHAT IT READS IS OF BULK AT MOST 1048576: true; the input reads as it did. -/
def fillSetsMatchSpecUptoRow : OpenClaim := { program := "ytelhefjikdoihaadoor", sum := "5deae9b6e47d0ecfd0c98069274f02e3c041bf382e1f9c89743c3fd2c6ad73d9", func := "voxel/voxellaw21.FillSetsMatchSpec", spec := "fillSetsMatchSpec", unfollowed := true, recurses := true, named := ["voxel/fill.steps"], plainKeys := false, apart := false, laid := [("voxel/fill.steps", laid_voxel_fill_steps)], narrowed := true }
def FillSetsMatchSpecUptoSaid : Prop := fillSetsMatchSpecUptoRow.holds Tryd.pinned (OpenSpec.upto fillSetsMatchSpecSpec)

/-- 'voxellaw21.FillAsksLittle', WHERE WHAT IT READS IS OF BULK AT MOST 1048576: true; the input reads as it did. -/
def fillAsksLittleUptoRow : OpenClaim := { program := "ytelhefjikdoihaadoor", sum := "5deae9b6e47d0ecfd0c98069274f02e3c041bf382e1f9c89743c3fd2c6ad73d9", func := "voxel/voxellaw21.FillAsksLittle", spec := "fillAsksLittle", unfollowed := true, recurses := true, named := ["voxel/fill.steps"], plainKeys := false, apart := false, laid := [("voxel/fill.steps", laid_voxel_fill_steps)], narrowed := true }
def FillAsksLittleUptoSaid : Prop := fillAsksLittleUptoRow.holds Tryd.pinned (OpenSpec.upto fillAsksLittleSpec)

/-- 'voxellaw21.FillRegions', WHERE WHAT IT READS IS OF BULK AT MOST 1048576: true; the input reads as it did. -/
def fillRegionsUptoRow : OpenClaim := { program := "ytelhefjikdoihaadoor", sum := "5deae9b6e47d0ecfd0c98069274f02e3c041bf382e1f9c89743c3fd2c6ad73d9", func := "voxel/voxellaw21.FillRegions", spec := "fillRegions", unfollowed := true, recurses := true, named := ["voxel/fill.steps"], plainKeys := false, apart := false, laid := [("voxel/fill.steps", laid_voxel_fill_steps)], narrowed := true }
def FillRegionsUptoSaid : Prop := fillRegionsUptoRow.holds Tryd.pinned (OpenSpec.upto fillRegionsSpec)

/-- 'voxellaw21.FillIsCutOff', WHERE WHAT IT READS IS OF BULK AT MOST 1048576: true; the input reads as it did. -/
def fillIsCutOffUptoRow : OpenClaim := { program := "ytelhefjikdoihaadoor", sum := "5deae9b6e47d0ecfd0c98069274f02e3c041bf382e1f9c89743c3fd2c6ad73d9", func := "voxel/voxellaw21.FillIsCutOff", spec := "fillIsCutOff", unfollowed := true, recurses := true, named := ["voxel/fill.steps"], plainKeys := false, apart := false, laid := [("voxel/fill.steps", laid_voxel_fill_steps)], narrowed := true }
def FillIsCutOffUptoSaid : Prop := fillIsCutOffUptoRow.holds Tryd.pinned (OpenSpec.upto fillIsCutOffSpec)

end Rows
end Go.Proofs.YtelhefjikdoihaaDoor
