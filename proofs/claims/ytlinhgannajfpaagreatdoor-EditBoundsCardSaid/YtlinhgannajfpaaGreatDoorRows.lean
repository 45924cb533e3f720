/-
  NARROWER THAN 'FOR EVERY INPUT', by the rows' own cells (each row's printed sentence says how): EditChecksAsSpecified: laid · EditMatchesSpec: laid · EditDecodesAsSpecified: laid · EditRoundTrip: laid · EditOrder: laid · EditGrows: laid · EditBounds: laid.
  DERIVED. THE GIVEN ROWS OF THIS SEAT. 7 by the template 'for every input the law returns true; each argument reads behind the call as it read before'; 0 by the template 'total and deterministic' (their statements: YtlinhgannajfpaaGreatDoorTotals.lean).
  GIVEN WITH THE SEED: the statements are not yours to turn. If you find one false, say at which input.
  Laid BY PROGRAM, IN A SANDBOX (cutbox-rows.mjs): the forced cells as the released guide's own fill.sh prints them over the translation 16df380ffc7265cc… (all of the seat's roots in one cut). By AI agents, Wed Nov 11 2026. No macro, syntax, notation, axiom, sorry.
-/
import Derived.Test.YtlinhgannajfpaaGreatDoorChecked
import GoSem.Claim
import GoSem.ClaimJoined
import GoSem.ClaimMapViews
import Derived.JoinedTies
import Derived.KernelRfl
namespace Go.Proofs.YtlinhgannajfpaaGreatDoor
/- THE CELL 'sum', in the pinned program and in every row, IS THE sha256 OF THE DUMP (.gsa) THAT YtlinhgannajfpaaGreatDoorProg.lean LOADS. Nothing in Lean hashes anything: it is a label: what it is worth is what the hold of that sum in a sandbox is worth. -/
noncomputable def Tryz.pinned : Pinned := { name := "ytlinhgannajfpaagreatdoor", sum := "16df380ffc7265cc0252ea9d069b9ae910f928d9642c0d6671cde43f19d20256", checked := Tryz.checked }
namespace Rows
def none {H : Type} : Left H := { results := [], args := [] }

/- WHAT THE LISTED PACKAGE-LEVEL VARIABLES READ AS WHEN THE CALL BEGINS. Each datum BY PROGRAM (the guide's laid-datum.mjs) off the statement by which the dump's own 'gosem.cut.vars' lays the variable. In a bare row this is a premise. The card (YtlinhgannajfpaaGreatDoorCards.lean) ties it to the program's text. -/
def laid_voxel_point_axes {H : Type} : DataW H := .agg [.lit (.string [120, 121, 122]), .lit (.string [120, 122, 121]), .lit (.string [121, 120, 122]), .lit (.string [121, 122, 120]), .lit (.string [122, 120, 121]), .lit (.string [122, 121, 120])]
def laid_voxel_voxelref02_constants {H : Type} : DataW H := .agg [.lit (.int .u32 1116352408), .lit (.int .u32 1899447441), .lit (.int .u32 3049323471), .lit (.int .u32 3921009573), .lit (.int .u32 961987163), .lit (.int .u32 1508970993), .lit (.int .u32 2453635748), .lit (.int .u32 2870763221), .lit (.int .u32 3624381080), .lit (.int .u32 310598401), .lit (.int .u32 607225278), .lit (.int .u32 1426881987), .lit (.int .u32 1925078388), .lit (.int .u32 2162078206), .lit (.int .u32 2614888103), .lit (.int .u32 3248222580), .lit (.int .u32 3835390401), .lit (.int .u32 4022224774), .lit (.int .u32 264347078), .lit (.int .u32 604807628), .lit (.int .u32 770255983), .lit (.int .u32 1249150122), .lit (.int .u32 1555081692), .lit (.int .u32 1996064986), .lit (.int .u32 2554220882), .lit (.int .u32 2821834349), .lit (.int .u32 2952996808), .lit (.int .u32 3210313671), .lit (.int .u32 3336571891), .lit (.int .u32 3584528711), .lit (.int .u32 113926993), .lit (.int .u32 338241895), .lit (.int .u32 666307205), .lit (.int .u32 773529912), .lit (.int .u32 1294757372), .lit (.int .u32 1396182291), .lit (.int .u32 1695183700), .lit (.int .u32 1986661051), .lit (.int .u32 2177026350), .lit (.int .u32 2456956037), .lit (.int .u32 2730485921), .lit (.int .u32 2820302411), .lit (.int .u32 3259730800), .lit (.int .u32 3345764771), .lit (.int .u32 3516065817), .lit (.int .u32 3600352804), .lit (.int .u32 4094571909), .lit (.int .u32 275423344), .lit (.int .u32 430227734), .lit (.int .u32 506948616), .lit (.int .u32 659060556), .lit (.int .u32 883997877), .lit (.int .u32 958139571), .lit (.int .u32 1322822218), .lit (.int .u32 1537002063), .lit (.int .u32 1747873779), .lit (.int .u32 1955562222), .lit (.int .u32 2024104815), .lit (.int .u32 2227730452), .lit (.int .u32 2361852424), .lit (.int .u32 2428436474), .lit (.int .u32 2756734187), .lit (.int .u32 3204031479), .lit (.int .u32 3329325298)]
def laid_voxel_hash_constants {H : Type} : DataW H := .agg [.lit (.int .u32 1116352408), .lit (.int .u32 1899447441), .lit (.int .u32 3049323471), .lit (.int .u32 3921009573), .lit (.int .u32 961987163), .lit (.int .u32 1508970993), .lit (.int .u32 2453635748), .lit (.int .u32 2870763221), .lit (.int .u32 3624381080), .lit (.int .u32 310598401), .lit (.int .u32 607225278), .lit (.int .u32 1426881987), .lit (.int .u32 1925078388), .lit (.int .u32 2162078206), .lit (.int .u32 2614888103), .lit (.int .u32 3248222580), .lit (.int .u32 3835390401), .lit (.int .u32 4022224774), .lit (.int .u32 264347078), .lit (.int .u32 604807628), .lit (.int .u32 770255983), .lit (.int .u32 1249150122), .lit (.int .u32 1555081692), .lit (.int .u32 1996064986), .lit (.int .u32 2554220882), .lit (.int .u32 2821834349), .lit (.int .u32 2952996808), .lit (.int .u32 3210313671), .lit (.int .u32 3336571891), .lit (.int .u32 3584528711), .lit (.int .u32 113926993), .lit (.int .u32 338241895), .lit (.int .u32 666307205), .lit (.int .u32 773529912), .lit (.int .u32 1294757372), .lit (.int .u32 1396182291), .lit (.int .u32 1695183700), .lit (.int .u32 1986661051), .lit (.int .u32 2177026350), .lit (.int .u32 2456956037), .lit (.int .u32 2730485921), .lit (.int .u32 2820302411), .lit (.int .u32 3259730800), .lit (.int .u32 3345764771), .lit (.int .u32 3516065817), .lit (.int .u32 3600352804), .lit (.int .u32 4094571909), .lit (.int .u32 275423344), .lit (.int .u32 430227734), .lit (.int .u32 506948616), .lit (.int .u32 659060556), .lit (.int .u32 883997877), .lit (.int .u32 958139571), .lit (.int .u32 1322822218), .lit (.int .u32 1537002063), .lit (.int .u32 1747873779), .lit (.int .u32 1955562222), .lit (.int .u32 2024104815), .lit (.int .u32 2227730452), .lit (.int .u32 2361852424), .lit (.int .u32 2428436474), .lit (.int .u32 2756734187), .lit (.int .u32 3204031479), .lit (.int .u32 3329325298)]
def laid_voxel_edit_rows {H : Type} : DataW H := .agg [.agg [.lit (.string []), .lit (.int .i64 0)], .agg [.lit (.string [98, 111, 120]), .lit (.int .i64 9)], .agg [.lit (.string [98, 97, 108, 108]), .lit (.int .i64 26)], .agg [.lit (.string [112, 114, 105, 115, 109]), .lit (.int .i64 13)], .agg [.lit (.string [99, 111, 112, 121]), .lit (.int .i64 7)], .agg [.lit (.string [102, 105, 108, 108]), .lit (.int .i64 26)], .agg [.lit (.string [117, 110, 100, 111]), .lit (.int .i64 16)], .agg [.lit (.string [108, 111, 99, 107]), .lit (.int .i64 17)], .agg [.lit (.string [117, 110, 108, 111, 99, 107]), .lit (.int .i64 16)]]

/-- 'voxellaw25.EditChecksAsSpecified': WHATEVER THE INPUT: true; the input reads as it did. -/
def editChecksAsSpecifiedSpec : ChangeSpec := { name := "editChecksAsSpecified", fn := fun _ => fun
  | [d1, d2, d3] => { results := [.lit (.bool true)], args := [d1, d2, d3] }
  | _ => none }
def editChecksAsSpecifiedRow : OpenClaim := { program := "ytlinhgannajfpaagreatdoor", sum := "16df380ffc7265cc0252ea9d069b9ae910f928d9642c0d6671cde43f19d20256", func := "voxel/voxellaw25.EditChecksAsSpecified", spec := "editChecksAsSpecified", unfollowed := true, recurses := true, named := ["voxel/edit.rows", "voxel/point.axes", "voxel/hash.constants", "voxel/voxelref02.constants"], plainKeys := false, apart := false, laid := [("voxel/point.axes", laid_voxel_point_axes), ("voxel/voxelref02.constants", laid_voxel_voxelref02_constants), ("voxel/hash.constants", laid_voxel_hash_constants), ("voxel/edit.rows", laid_voxel_edit_rows)] }
def EditChecksAsSpecifiedSaid : Prop := editChecksAsSpecifiedRow.holds Tryz.pinned (OpenSpec.ofChange editChecksAsSpecifiedSpec)

/-- ITS FALSE NEIGHBOUR: 'it returns false'. Refute it at one input. -/
def editChecksAsSpecifiedWrong : ChangeSpec := { name := "editChecksAsSpecified", fn := fun _ => fun
  | [d1, d2, d3] => { results := [.lit (.bool false)], args := [d1, d2, d3] }
  | _ => none }
def EditChecksAsSpecifiedWrongFalsely : Prop := editChecksAsSpecifiedRow.holds Tryz.pinned (OpenSpec.ofChange editChecksAsSpecifiedWrong)

/-- 'voxellaw25.EditMatchesSpec': WHATEVER THE INPUT: true; the input reads as it did. -/
def editMatchesSpecSpec : ChangeSpec := { name := "editMatchesSpec", fn := fun _ => fun
  | [d1, d2, d3, d4] => { results := [.lit (.bool true)], args := [d1, d2, d3, d4] }
  | _ => none }
def editMatchesSpecRow : OpenClaim := { program := "ytlinhgannajfpaagreatdoor", sum := "16df380ffc7265cc0252ea9d069b9ae910f928d9642c0d6671cde43f19d20256", func := "voxel/voxellaw25.EditMatchesSpec", spec := "editMatchesSpec", unfollowed := true, recurses := true, named := ["voxel/edit.rows", "voxel/point.axes", "voxel/hash.constants", "voxel/voxelref02.constants"], plainKeys := false, apart := false, laid := [("voxel/point.axes", laid_voxel_point_axes), ("voxel/voxelref02.constants", laid_voxel_voxelref02_constants), ("voxel/hash.constants", laid_voxel_hash_constants), ("voxel/edit.rows", laid_voxel_edit_rows)] }
def EditMatchesSpecSaid : Prop := editMatchesSpecRow.holds Tryz.pinned (OpenSpec.ofChange editMatchesSpecSpec)

/-- ITS FALSE NEIGHBOUR: 'it returns false'. Refute it at one input. -/
def editMatchesSpecWrong : ChangeSpec := { name := "editMatchesSpec", fn := fun _ => fun
  | [d1, d2, d3, d4] => { results := [.lit (.bool false)], args := [d1, d2, d3, d4] }
  | _ => none }
def EditMatchesSpecWrongFalsely : Prop := editMatchesSpecRow.holds Tryz.pinned (OpenSpec.ofChange editMatchesSpecWrong)

/-- 'voxellaw25.EditDecodesAsSpecified': WHATEVER THE INPUT: true; the input reads as it did. -/
def editDecodesAsSpecifiedSpec : ChangeSpec := { name := "editDecodesAsSpecified", fn := fun _ => fun
  | [d] => { results := [.lit (.bool true)], args := [d] }
  | _ => none }
def editDecodesAsSpecifiedRow : OpenClaim := { program := "ytlinhgannajfpaagreatdoor", sum := "16df380ffc7265cc0252ea9d069b9ae910f928d9642c0d6671cde43f19d20256", func := "voxel/voxellaw25.EditDecodesAsSpecified", spec := "editDecodesAsSpecified", unfollowed := true, recurses := true, named := ["voxel/edit.rows", "voxel/point.axes", "voxel/hash.constants", "voxel/voxelref02.constants"], plainKeys := false, apart := false, laid := [("voxel/point.axes", laid_voxel_point_axes), ("voxel/voxelref02.constants", laid_voxel_voxelref02_constants), ("voxel/hash.constants", laid_voxel_hash_constants), ("voxel/edit.rows", laid_voxel_edit_rows)] }
def EditDecodesAsSpecifiedSaid : Prop := editDecodesAsSpecifiedRow.holds Tryz.pinned (OpenSpec.ofChange editDecodesAsSpecifiedSpec)

/-- ITS FALSE NEIGHBOUR: 'it returns false'. Refute it at one input. -/
def editDecodesAsSpecifiedWrong : ChangeSpec := { name := "editDecodesAsSpecified", fn := fun _ => fun
  | [d] => { results := [.lit (.bool false)], args := [d] }
  | _ => none }
def EditDecodesAsSpecifiedWrongFalsely : Prop := editDecodesAsSpecifiedRow.holds Tryz.pinned (OpenSpec.ofChange editDecodesAsSpecifiedWrong)

/-- 'voxellaw25.EditRoundTrip': WHATEVER THE INPUT: true; the input reads as it did. -/
def editRoundTripSpec : ChangeSpec := { name := "editRoundTrip", fn := fun _ => fun
  | [d1, d2, d3] => { results := [.lit (.bool true)], args := [d1, d2, d3] }
  | _ => none }
def editRoundTripRow : OpenClaim := { program := "ytlinhgannajfpaagreatdoor", sum := "16df380ffc7265cc0252ea9d069b9ae910f928d9642c0d6671cde43f19d20256", func := "voxel/voxellaw25.EditRoundTrip", spec := "editRoundTrip", unfollowed := true, recurses := true, named := ["voxel/edit.rows", "voxel/point.axes", "voxel/hash.constants", "voxel/voxelref02.constants"], plainKeys := false, apart := false, laid := [("voxel/point.axes", laid_voxel_point_axes), ("voxel/voxelref02.constants", laid_voxel_voxelref02_constants), ("voxel/hash.constants", laid_voxel_hash_constants), ("voxel/edit.rows", laid_voxel_edit_rows)] }
def EditRoundTripSaid : Prop := editRoundTripRow.holds Tryz.pinned (OpenSpec.ofChange editRoundTripSpec)

/-- ITS FALSE NEIGHBOUR: 'it returns false'. Refute it at one input. -/
def editRoundTripWrong : ChangeSpec := { name := "editRoundTrip", fn := fun _ => fun
  | [d1, d2, d3] => { results := [.lit (.bool false)], args := [d1, d2, d3] }
  | _ => none }
def EditRoundTripWrongFalsely : Prop := editRoundTripRow.holds Tryz.pinned (OpenSpec.ofChange editRoundTripWrong)

/-- 'voxellaw25.EditOrder': WHATEVER THE INPUT: true; the input reads as it did. -/
def editOrderSpec : ChangeSpec := { name := "editOrder", fn := fun _ => fun
  | [d1, d2, d3, d4] => { results := [.lit (.bool true)], args := [d1, d2, d3, d4] }
  | _ => none }
def editOrderRow : OpenClaim := { program := "ytlinhgannajfpaagreatdoor", sum := "16df380ffc7265cc0252ea9d069b9ae910f928d9642c0d6671cde43f19d20256", func := "voxel/voxellaw25.EditOrder", spec := "editOrder", unfollowed := true, recurses := true, named := ["voxel/edit.rows", "voxel/point.axes", "voxel/hash.constants", "voxel/voxelref02.constants"], plainKeys := false, apart := false, laid := [("voxel/point.axes", laid_voxel_point_axes), ("voxel/voxelref02.constants", laid_voxel_voxelref02_constants), ("voxel/hash.constants", laid_voxel_hash_constants), ("voxel/edit.rows", laid_voxel_edit_rows)] }
def EditOrderSaid : Prop := editOrderRow.holds Tryz.pinned (OpenSpec.ofChange editOrderSpec)

/-- ITS FALSE NEIGHBOUR: 'it returns false'. Refute it at one input. -/
def editOrderWrong : ChangeSpec := { name := "editOrder", fn := fun _ => fun
  | [d1, d2, d3, d4] => { results := [.lit (.bool false)], args := [d1, d2, d3, d4] }
  | _ => none }
def EditOrderWrongFalsely : Prop := editOrderRow.holds Tryz.pinned (OpenSpec.ofChange editOrderWrong)

/-- 'voxellaw25.EditGrows': WHATEVER THE INPUT: true; the input reads as it did. -/
def editGrowsSpec : ChangeSpec := { name := "editGrows", fn := fun _ => fun
  | [d1, d2, d3, d4, d5, d6] => { results := [.lit (.bool true)], args := [d1, d2, d3, d4, d5, d6] }
  | _ => none }
def editGrowsRow : OpenClaim := { program := "ytlinhgannajfpaagreatdoor", sum := "16df380ffc7265cc0252ea9d069b9ae910f928d9642c0d6671cde43f19d20256", func := "voxel/voxellaw25.EditGrows", spec := "editGrows", unfollowed := true, recurses := true, named := ["voxel/edit.rows", "voxel/point.axes", "voxel/hash.constants", "voxel/voxelref02.constants"], plainKeys := false, apart := false, laid := [("voxel/point.axes", laid_voxel_point_axes), ("voxel/voxelref02.constants", laid_voxel_voxelref02_constants), ("voxel/hash.constants", laid_voxel_hash_constants), ("voxel/edit.rows", laid_voxel_edit_rows)] }
def EditGrowsSaid : Prop := editGrowsRow.holds Tryz.pinned (OpenSpec.ofChange editGrowsSpec)

/-- ITS FALSE NEIGHBOUR: 'it returns false'. Refute it at one input. -/
def editGrowsWrong : ChangeSpec := { name := "editGrows", fn := fun _ => fun
  | [d1, d2, d3, d4, d5, d6] => { results := [.lit (.bool false)], args := [d1, d2, d3, d4, d5, d6] }
  | _ => none }
def EditGrowsWrongFalsely : Prop := editGrowsRow.holds Tryz.pinned (OpenSpec.ofChange editGrowsWrong)

/-- 'voxellaw25.EditBounds': WHATEVER THE INPUT: true; the input reads as it did. -/
def editBoundsSpec : ChangeSpec := { name := "editBounds", fn := fun _ => fun
  | [d1, d2, d3] => { results := [.lit (.bool true)], args := [d1, d2, d3] }
  | _ => none }
def editBoundsRow : OpenClaim := { program := "ytlinhgannajfpaagreatdoor", sum := "16df380ffc7265cc0252ea9d069b9ae910f928d9642c0d6671cde43f19d20256", func := "voxel/voxellaw25.EditBounds", spec := "editBounds", unfollowed := true, recurses := true, named := ["voxel/edit.rows", "voxel/point.axes", "voxel/hash.constants", "voxel/voxelref02.constants"], plainKeys := false, apart := false, laid := [("voxel/point.axes", laid_voxel_point_axes), ("voxel/voxelref02.constants", laid_voxel_voxelref02_constants), ("voxel/hash.constants", laid_voxel_hash_constants), ("voxel/edit.rows", laid_voxel_edit_rows)] }
def EditBoundsSaid : Prop := editBoundsRow.holds Tryz.pinned (OpenSpec.ofChange editBoundsSpec)

/-- ITS FALSE NEIGHBOUR: 'it returns false'. Refute it at one input. -/
def editBoundsWrong : ChangeSpec := { name := "editBounds", fn := fun _ => fun
  | [d1, d2, d3] => { results := [.lit (.bool false)], args := [d1, d2, d3] }
  | _ => none }
def EditBoundsWrongFalsely : Prop := editBoundsRow.holds Tryz.pinned (OpenSpec.ofChange editBoundsWrong)

/- THE SECOND FORM. 'bulk': how many values and letters a reading holds, each counted each time it is reached (what is shared counts as often as it is met; a slice's spare places count too). A statement '..UptoSaid' is the law's where the arguments, and the package variables that the reading takes, are together of bulk at most 1048576: NARROWER than '..Said'. Prove '..Said' where nothing that the law and all that it calls make is longer than what came in: it says more and counts as full. Else prove '..UptoSaid'. A law counts once. -/
mutual
def uptoBulk {H : Type} : DataW H → Nat
  | .lit (.string bytes) => bytes.length + 1
  | .lit _ => 1
  | .nil => 1
  | .ptr d => uptoBulk d + 1
  | .slice elems spare => uptoBulkAll elems + uptoBulkAll spare + 1
  | .agg parts => uptoBulkAll parts + 1
  | .iface _ d => uptoBulk d + 1
  | .map entries => uptoBulkEntries entries + 1
  | .held _ => 1
def uptoBulkAll {H : Type} : List (DataW H) → Nat
  | [] => 0
  | d :: r => uptoBulk d + uptoBulkAll r
def uptoBulkEntries {H : Type} : List (Lit × DataW H) → Nat
  | [] => 0
  | x :: r => uptoBulkEntry x + uptoBulkEntries r
def uptoBulkEntry {H : Type} : Lit × DataW H → Nat
  | (.string bytes, d) => bytes.length + uptoBulk d + 1
  | (_, d) => uptoBulk d + 1
 end
def uptoSmall : (H : Type) → List (DataW H) → Bool := fun _ ds => decide (uptoBulkAll ds ≤ 1048576)
def OpenSpec.upto (s : _root_.Go.ChangeSpec) : _root_.Go.OpenSpec := { _root_.Go.OpenSpec.ofChange s with cond := some uptoSmall }

/-- 'voxellaw25.EditChecksAsSpecified', WHERE WHAT IT READS IS OF BULK AT MOST 1048576: true; the input reads as it did. -/
def editChecksAsSpecifiedUptoRow : OpenClaim := { program := "ytlinhgannajfpaagreatdoor", sum := "16df380ffc7265cc0252ea9d069b9ae910f928d9642c0d6671cde43f19d20256", func := "voxel/voxellaw25.EditChecksAsSpecified", spec := "editChecksAsSpecified", unfollowed := true, recurses := true, named := ["voxel/edit.rows", "voxel/point.axes", "voxel/hash.constants", "voxel/voxelref02.constants"], plainKeys := false, apart := false, laid := [("voxel/point.axes", laid_voxel_point_axes), ("voxel/voxelref02.constants", laid_voxel_voxelref02_constants), ("voxel/hash.constants", laid_voxel_hash_constants), ("voxel/edit.rows", laid_voxel_edit_rows)], narrowed := true }
def EditChecksAsSpecifiedUptoSaid : Prop := editChecksAsSpecifiedUptoRow.holds Tryz.pinned (OpenSpec.upto editChecksAsSpecifiedSpec)

/-- 'voxellaw25.EditMatchesSpec', WHERE WHAT IT READS IS OF BULK AT MOST 1048576: true; the input reads as it did. -/
def editMatchesSpecUptoRow : OpenClaim := { program := "ytlinhgannajfpaagreatdoor", sum := "16df380ffc7265cc0252ea9d069b9ae910f928d9642c0d6671cde43f19d20256", func := "voxel/voxellaw25.EditMatchesSpec", spec := "editMatchesSpec", unfollowed := true, recurses := true, named := ["voxel/edit.rows", "voxel/point.axes", "voxel/hash.constants", "voxel/voxelref02.constants"], plainKeys := false, apart := false, laid := [("voxel/point.axes", laid_voxel_point_axes), ("voxel/voxelref02.constants", laid_voxel_voxelref02_constants), ("voxel/hash.constants", laid_voxel_hash_constants), ("voxel/edit.rows", laid_voxel_edit_rows)], narrowed := true }
def EditMatchesSpecUptoSaid : Prop := editMatchesSpecUptoRow.holds Tryz.pinned (OpenSpec.upto editMatchesSpecSpec)

/-- 'voxellaw25.EditDecodesAsSpecified', WHERE WHAT IT READS IS OF BULK AT MOST 1048576: true; the input reads as it did. -/
def editDecodesAsSpecifiedUptoRow : OpenClaim := { program := "ytlinhgannajfpaagreatdoor", sum := "16df380ffc7265cc0252ea9d069b9ae910f928d9642c0d6671cde43f19d20256", func := "voxel/voxellaw25.EditDecodesAsSpecified", spec := "editDecodesAsSpecified", unfollowed := true, recurses := true, named := ["voxel/edit.rows", "voxel/point.axes", "voxel/hash.constants", "voxel/voxelref02.constants"], plainKeys := false, apart := false, laid := [("voxel/point.axes", laid_voxel_point_axes), ("voxel/voxelref02.constants", laid_voxel_voxelref02_constants), ("voxel/hash.constants", laid_voxel_hash_constants), ("voxel/edit.rows", laid_voxel_edit_rows)], narrowed := true }
def EditDecodesAsSpecifiedUptoSaid : Prop := editDecodesAsSpecifiedUptoRow.holds Tryz.pinned (OpenSpec.upto editDecodesAsSpecifiedSpec)

/-- 'voxellaw25.EditRoundTrip', WHERE WHAT IT READS IS OF BULK AT MOST 1048576: true; the input reads as it did. -/
def editRoundTripUptoRow : OpenClaim := { program := "ytlinhgannajfpaagreatdoor", sum := "16df380ffc7265cc0252ea9d069b9ae910f928d9642c0d6671cde43f19d20256", func := "voxel/voxellaw25.EditRoundTrip", spec := "editRoundTrip", unfollowed := true, recurses := true, named := ["voxel/edit.rows", "voxel/point.axes", "voxel/hash.constants", "voxel/voxelref02.constants"], plainKeys := false, apart := false, laid := [("voxel/point.axes", laid_voxel_point_axes), ("voxel/voxelref02.constants", laid_voxel_voxelref02_constants), ("voxel/hash.constants", laid_voxel_hash_constants), ("voxel/edit.rows", laid_voxel_edit_rows)], narrowed := true }
def EditRoundTripUptoSaid : Prop := editRoundTripUptoRow.holds Tryz.pinned (OpenSpec.upto editRoundTripSpec)

/-- 'voxellaw25.EditOrder', WHERE WHAT IT READS IS OF BULK AT MOST 1048576: true; the input reads as it did. -/
def editOrderUptoRow : OpenClaim := { program := "ytlinhgannajfpaagreatdoor", sum := "16df380ffc7265cc0252ea9d069b9ae910f928d9642c0d6671cde43f19d20256", func := "voxel/voxellaw25.EditOrder", spec := "editOrder", unfollowed := true, recurses := true, named := ["voxel/edit.rows", "voxel/point.axes", "voxel/hash.constants", "voxel/voxelref02.constants"], plainKeys := false, apart := false, laid := [("voxel/point.axes", laid_voxel_point_axes), ("voxel/voxelref02.constants", laid_voxel_voxelref02_constants), ("voxel/hash.constants", laid_voxel_hash_constants), ("voxel/edit.rows", laid_voxel_edit_rows)], narrowed := true }
def EditOrderUptoSaid : Prop := editOrderUptoRow.holds Tryz.pinned (OpenSpec.upto editOrderSpec)

/-- 'voxellaw25.EditGrows', WHERE WHAT IT READS IS OF BULK AT MOST 1048576: true; the input reads as it did. -/
def editGrowsUptoRow : OpenClaim := { program := "ytlinhgannajfpaagreatdoor", sum := "16df380ffc7265cc0252ea9d069b9ae910f928d9642c0d6671cde43f19d20256", func := "voxel/voxellaw25.EditGrows", spec := "editGrows", unfollowed := true, recurses := true, named := ["voxel/edit.rows", "voxel/point.axes", "voxel/hash.constants", "voxel/voxelref02.constants"], plainKeys := false, apart := false, laid := [("voxel/point.axes", laid_voxel_point_axes), ("voxel/voxelref02.constants", laid_voxel_voxelref02_constants), ("voxel/hash.constants", laid_voxel_hash_constants), ("voxel/edit.rows", laid_voxel_edit_rows)], narrowed := true }
def EditGrowsUptoSaid : Prop := editGrowsUptoRow.holds Tryz.pinned (OpenSpec.upto editGrowsSpec)

/-- 'voxellaw25.EditBounds', WHERE WHAT IT READS IS OF BULK AT MOST 1048576: true; the input reads as it did. -/
def editBoundsUptoRow : OpenClaim := { program := "ytlinhgannajfpaagreatdoor", sum := "16df380ffc7265cc0252ea9d069b9ae910f928d9642c0d6671cde43f19d20256", func := "voxel/voxellaw25.EditBounds", spec := "editBounds", unfollowed := true, recurses := true, named := ["voxel/edit.rows", "voxel/point.axes", "voxel/hash.constants", "voxel/voxelref02.constants"], plainKeys := false, apart := false, laid := [("voxel/point.axes", laid_voxel_point_axes), ("voxel/voxelref02.constants", laid_voxel_voxelref02_constants), ("voxel/hash.constants", laid_voxel_hash_constants), ("voxel/edit.rows", laid_voxel_edit_rows)], narrowed := true }
def EditBoundsUptoSaid : Prop := editBoundsUptoRow.holds Tryz.pinned (OpenSpec.upto editBoundsSpec)

end Rows
end Go.Proofs.YtlinhgannajfpaaGreatDoor
