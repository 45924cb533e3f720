/- YtlinhgannajfpaaGreatDoorUv · YtlinhgannajfpaaGreatDoorZa · YtlinhgannajfpaaGreatDoorEq · YtlinhgannajfpaaGreatDoorSm · YtlinhgannajfpaaGreatDoorRl · YtlinhgannajfpaaGreatDoorRm · YtlinhgannajfpaaGreatDoorZs -/
import Derived.Test.YtlinhgannajfpaaGreatDoorRows
import Derived.LaidMore
import Derived.Stop.Joined
import Derived.Lay
import Derived.Deep.Cut
import Derived.Test.YtlinhgannajfpaaGreatDoorYa9
/- What the laid variables give: the tables of the kinds and of the axes, the constants of both hashes. -/
namespace Go.Proofs.YtlinhgannajfpaaGreatDoor
open Go Go.RowKit Go.ChangeShapes Go.WideShapes Go.ChangeAt

theorem wf64 {n : Int} (h : (Lit.int .i64 n).wf = true) : fit64 n := by
  unfold fit64
  simpa [Lit.wf, IntKind.min, IntKind.max, IntKind.signed, IntKind.bits] using h
theorem fitE_of {x : Ed} (h : ∀ n, n ∈ x.ints → (Lit.int .i64 n).wf = true) : FitE x := fun n hn => wf64 (h n (by
  simp only [numsE, List.mem_cons, List.not_mem_nil, or_false] at hn
  simp only [Ed.ints, List.mem_cons, List.not_mem_nil, or_false]
  rcases hn with e | e | e | e | e | e | e | e | e | e | e | e | e | e | e | e | e <;> simp [e]))
theorem fits_of {x : Ed} (h : ∀ n, n ∈ x.ints → (Lit.int .i64 n).wf = true) : fits x :=
  ⟨(wf64 (h _ (by simp [Ed.ints]))).2, (wf64 (h _ (by simp [Ed.ints]))).2, (wf64 (h _ (by simp [Ed.ints]))).2⟩
section
variable {P : Program} {H : Type} {enc : TypeId × Value → H} {w : World} {spare : Nat → Bool} {held : Bool} {n : Nat}
theorem int_at {k : IntKind} {t : TypeId} (ht : P.underlying t = some (.int k)) {cs : List Value} {off : Nat} {v : Int} {p : List MemPlace} (h : DataW.trod enc P w 0 spare held n t ((cs.drop off).take 1) = some (.lit (.int k v), p)) : cs[off]? = some (.int k v) := by
  obtain ⟨m, e1, e2, _⟩ := DataW.trod_int ht h
  injection e2 with e2 _
  injection e2 with e2
  injection e2 with _ e2
  subst e2
  have h1 : ((cs.drop off).take 1)[0]? = some (.int k v) := by rw [e1]; rfl
  rw [List.getElem?_take, if_pos (by decide), List.getElem?_drop] at h1
  exact h1
theorem str_at {t : TypeId} (ht : P.underlying t = some .string) {cs : List Value} {off : Nat} {l : List UInt8} {p : List MemPlace} (h : DataW.trod enc P w 0 spare held n t ((cs.drop off).take 1) = some (.lit (.string l), p)) : cs[off]? = some (strV l) := by
  obtain ⟨s, e1, e2, _⟩ := DataW.trod_string ht h
  injection e2 with e2 _
  injection e2 with e2
  injection e2 with e2
  have e3 : s = ⟨l.toArray⟩ := by
    obtain ⟨⟨x⟩⟩ := s
    rw [e2]
  subst e3
  have h1 : ((cs.drop off).take 1)[0]? = some (strV l) := by rw [e1]; rfl
  rw [List.getElem?_take, if_pos (by decide), List.getElem?_drop] at h1
  exact h1
theorem part_at {ds : List (DataW H)} {xs : List (DataW H × List MemPlace)} {p : List MemPlace} {q : List MemPlace} (hx : ((DataW.agg ds, p) : DataW H × List MemPlace) = (.agg (xs.map (·.1)), q)) {i : Nat} {d : DataW H} (hd : ds[i]? = some d) : ∃ r, xs[i]? = some (d, r) := by
  injection hx with hx _
  injection hx with hx
  subst hx
  rw [List.getElem?_map] at hd
  obtain ⟨x, hx, rfl⟩ := Option.map_eq_some_iff.1 hd
  exact ⟨x.2, hx⟩
end
theorem gRows : Tryz.prog.globalNamed "voxel/edit.rows" = some 0 := by kernel_rfl
theorem gAxes : Tryz.prog.globalNamed "voxel/point.axes" = some 1 := by kernel_rfl
theorem gHash : Tryz.prog.globalNamed "voxel/hash.constants" = some 2 := by kernel_rfl
theorem gRef2 : Tryz.prog.globalNamed "voxel/voxelref02.constants" = some 3 := by kernel_rfl
def laidL : List (String × DataW Unit) := [("voxel/point.axes", Rows.laid_voxel_point_axes), ("voxel/voxelref02.constants", Rows.laid_voxel_voxelref02_constants), ("voxel/hash.constants", Rows.laid_voxel_hash_constants), ("voxel/edit.rows", Rows.laid_voxel_edit_rows)]
set_option maxRecDepth 100000 in
theorem rows_of {W : World} {cs : Array Value} {f : Nat} {p : List MemPlace} {enc : TypeId × Value → Unit} {spare : Nat → Bool} {held : Bool} (hv : W.var? Tryz.prog "voxel/edit.rows" = some cs) (hd : DataW.trod enc Tryz.prog W 0 spare held f 80 cs.toList = some (Rows.laid_voxel_edit_rows, p)) : RowsIn W ∧ NamesIn W := by
  obtain ⟨xs, m, _, hx, _, _, hg⟩ := DataW.trod_array Tryz.underlying80 hd
  have c2 : Tryz.prog.cellsOf 79 = 2 := by kernel_rfl
  have c1 : Tryz.prog.cellsOf 3 = 1 := by kernel_rfl
  have c3 : Tryz.prog.cellsOf 9 = 1 := by kernel_rfl
  rw [c2] at hg
  have key : ∀ i, i < 9 → W.cell? ⟨0, 2 * i + 1, none⟩ = some (.int .i64 (rowF i)) ∧ W.cell? ⟨0, 2 * i, none⟩ = some (strV (nameF i)) := by
    intro i hi
    have hpart : ∃ r, xs[i]? = some (.agg [.lit (.string (nameF i)), .lit (.int .i64 (rowF i))], r) := by
      match i, hi with
      | 0, _ => exact part_at hx (i := 0) rfl
      | 1, _ => exact part_at hx (i := 1) rfl
      | 2, _ => exact part_at hx (i := 2) rfl
      | 3, _ => exact part_at hx (i := 3) rfl
      | 4, _ => exact part_at hx (i := 4) rfl
      | 5, _ => exact part_at hx (i := 5) rfl
      | 6, _ => exact part_at hx (i := 6) rfl
      | 7, _ => exact part_at hx (i := 7) rfl
      | 8, _ => exact part_at hx (i := 8) rfl
      | i + 9, h => omega
    obtain ⟨r, hp⟩ := hpart
    have g := hg i hi
    rw [hp] at g
    obtain ⟨ys, k, _, hy, _, _, hf⟩ := DataW.trod_struct Tryz.underlying79 g
    obtain ⟨r1, h1⟩ := part_at hy (i := 1) rfl
    obtain ⟨r0, h0⟩ := part_at hy (i := 0) rfl
    have f1 : DataW.trod enc Tryz.prog W 0 spare held k 3 ((((cs.toList.drop (i * 2)).take 2).drop 1).take (Tryz.prog.cellsOf 3)) = ys[1]? := hf 1 _ rfl
    have f0 : DataW.trod enc Tryz.prog W 0 spare held k 9 ((((cs.toList.drop (i * 2)).take 2).drop 0).take (Tryz.prog.cellsOf 9)) = ys[0]? := hf 0 _ rfl
    rw [h1, c1] at f1
    rw [h0, c3] at f0
    have q := int_at Tryz.underlying3 f1
    have q0 := str_at Tryz.underlying9 f0
    rw [List.getElem?_take, if_pos (by decide), List.getElem?_drop, Array.getElem?_toList] at q q0
    rw [World.var?_cell gRows hv (2 * i + 1), World.var?_cell gRows hv (2 * i), show 2 * i + 1 = i * 2 + 1 by omega, show 2 * i = i * 2 + 0 by omega]
    exact ⟨q, q0⟩
  have hlt := World.block_lt_of_cell? W _ (key 0 (by decide)).1
  exact ⟨⟨fun i hi => (key i hi).1, hlt⟩, ⟨fun i hi => (key i hi).2, hlt⟩⟩
set_option maxRecDepth 100000 in
theorem axes_of {W : World} {cs : Array Value} {f : Nat} {p : List MemPlace} {enc : TypeId × Value → Unit} {spare : Nat → Bool} {held : Bool} (hv : W.var? Tryz.prog "voxel/point.axes" = some cs) (hd : DataW.trod enc Tryz.prog W 0 spare held f 148 cs.toList = some (Rows.laid_voxel_point_axes, p)) : AxesIn W := by
  obtain ⟨xs, m, _, hx, _, _, hg⟩ := DataW.trod_array Tryz.underlying148 hd
  have c1 : Tryz.prog.cellsOf 9 = 1 := by kernel_rfl
  rw [c1] at hg
  have key : ∀ i, i < 6 → W.cell? ⟨1, i, none⟩ = some (strV (axisL i)) := by
    intro i hi
    have hpart : ∃ r, xs[i]? = some (.lit (.string (axisL i)), r) := by
      match i, hi with
      | 0, _ => exact part_at hx (i := 0) rfl
      | 1, _ => exact part_at hx (i := 1) rfl
      | 2, _ => exact part_at hx (i := 2) rfl
      | 3, _ => exact part_at hx (i := 3) rfl
      | 4, _ => exact part_at hx (i := 4) rfl
      | 5, _ => exact part_at hx (i := 5) rfl
      | i + 6, h => omega
    obtain ⟨r, hp⟩ := hpart
    have g := hg i hi
    rw [hp] at g
    have q := str_at Tryz.underlying9 g
    rw [Array.getElem?_toList] at q
    rw [World.var?_cell gAxes hv i]
    rwa [Nat.mul_one] at q
  exact ⟨key, World.block_lt_of_cell? W _ (key 0 (by decide))⟩
set_option maxRecDepth 100000 in
theorem consts_of {W : World} {cs : Array Value} {f : Nat} {p : List MemPlace} {enc : TypeId × Value → Unit} {spare : Nat → Bool} {held : Bool} {nm : String} {gid : Nat} {D : DataW Unit} (hD : D = .agg ((List.range 64).map fun i => .lit (.int .u32 (wn (kW i) : Int)))) (hn : Tryz.prog.globalNamed nm = some gid) (hv : W.var? Tryz.prog nm = some cs) (hd : DataW.trod enc Tryz.prog W 0 spare held f 155 cs.toList = some (D, p)) : KIn W gid := by
  subst hD
  obtain ⟨xs, m, _, hx, _, _, hg⟩ := DataW.trod_array Tryz.underlying155 hd
  have c1 : Tryz.prog.cellsOf 112 = 1 := by kernel_rfl
  rw [c1] at hg
  have key : ∀ i, i < 64 → W.cell? ⟨gid, i, none⟩ = some (.int .u32 (wn (kW i) : Int)) := by
    intro i hi
    obtain ⟨r, hp⟩ := part_at hx (i := i) (d := .lit (.int .u32 (wn (kW i) : Int))) (by simp [hi])
    have g := hg i hi
    rw [hp] at g
    have q := int_at Tryz.underlying112 g
    rw [Array.getElem?_toList] at q
    rw [World.var?_cell hn hv i]
    rwa [Nat.mul_one] at q
  exact ⟨key, World.block_lt_of_cell? W _ (key 0 (by decide))⟩
theorem datHash : (Rows.laid_voxel_hash_constants : DataW Unit) = .agg ((List.range 64).map fun i => .lit (.int .u32 (wn (kW i) : Int))) := by kernel_rfl
theorem datRef2 : (Rows.laid_voxel_voxelref02_constants : DataW Unit) = .agg ((List.range 64).map fun i => .lit (.int .u32 (wn (kW i) : Int))) := by kernel_rfl
theorem laid_of {W : World} (h : laidMetH Tryz.prog laidL W) : EnvI W := by
  rw [MakeChecks.laidMetH_plain _ _ _ (by kernel_rfl)] at h
  obtain ⟨ps, ⟨g0, t0, cs0, f0, p0, q0, hg0, ht0, hv0, hd0, ⟨g1, t1, cs1, f1, p1, q1, hg1, ht1, hv1, hd1, ⟨g2, t2, cs2, f2, p2, q2, hg2, ht2, hv2, hd2, ⟨g3, t3, cs3, f3, p3, q3, hg3, ht3, hv3, hd3, _, _⟩, _⟩, _⟩, _⟩, _, _⟩ := h
  obtain rfl := Option.some.inj (gAxes.symm.trans hg0)
  obtain rfl := Option.some.inj (gRef2.symm.trans hg1)
  obtain rfl := Option.some.inj (gHash.symm.trans hg2)
  obtain rfl := Option.some.inj (gRows.symm.trans hg3)
  obtain rfl := Option.some.inj ((show (Tryz.prog.globals[1]?).map (·.type) = some 148 by kernel_rfl).symm.trans ht0)
  obtain rfl := Option.some.inj ((show (Tryz.prog.globals[3]?).map (·.type) = some 155 by kernel_rfl).symm.trans ht1)
  obtain rfl := Option.some.inj ((show (Tryz.prog.globals[2]?).map (·.type) = some 155 by kernel_rfl).symm.trans ht2)
  obtain rfl := Option.some.inj ((show (Tryz.prog.globals[0]?).map (·.type) = some 80 by kernel_rfl).symm.trans ht3)
  exact ⟨axes_of hv0 hd0, (rows_of hv3 hd3).1, (rows_of hv3 hd3).2, consts_of datHash gHash hv2 hd2, consts_of datRef2 gRef2 hv1 hd1⟩
end Go.Proofs.YtlinhgannajfpaaGreatDoor

/- Plain laws: what Decode gives of an encoding; what an encoding is of; Check at greater depths and more materials. -/
namespace Go.Proofs.YtlinhgannajfpaaGreatDoor
open Go Go.RowKit

theorem edOf_nums (x : Ed) : edOf (numsE x) = x := rfl
theorem dec_enc {x : Ed} (h : FitE x) : decE (encE x) = if formedE x then (x, 0) else (zeroE, 1) := by
  have h1 := getL_enc h (by show 17 ≤ 1000000; omega) []
  rw [List.append_nil] at h1
  unfold decE encE
  rw [h1]
  simp only [edOf_nums]
  rw [if_neg (by
    rintro (h | h)
    · exact h rfl
    · exact h rfl)]
  rfl
theorem dec_back {b : List UInt8} {x : Ed} (h : decE b = (x, 0)) : encE x = b ∧ formedE x = true ∧ FitE x := by
  unfold decE at h
  split at h
  · rename_i er hg
    injection h with _ h
    unfold eno at h
    split at h <;> omega
  · rename_i l k hg
    split at h
    · injection h with _ h; omega
    · rename_i hk
      split at h
      · rename_i hf
        injection h with h _
        subst h
        obtain ⟨h1, h2, h3⟩ := getL_back hg
        have hk1 : k = b.length := Decidable.byContradiction fun hh => hk (.inl hh)
        have hk2 : l.length = 17 := Decidable.byContradiction fun hh => hk (.inr hh)
        subst hk1
        rw [List.take_length] at h2
        unfold encE FitE
        rw [numsE_edOf hk2]
        exact ⟨h2.symm, hf, h3⟩
      · injection h with _ h; omega
theorem enc_beq {x y : Ed} (hx : FitE x) (hy : FitE y) : (encE x == encE y) = decide (x = y) := by
  rw [Bool.eq_iff_iff, beq_iff_eq, decide_eq_true_eq]
  exact ⟨fun h => numsE_inj (encL_inj hx hy (by show 17 ≤ 1000000; omega) (by show 17 ≤ 1000000; omega) h), fun h => by rw [h]⟩
theorem cmp_beq (x y : Ed) : decide (cmpV (numsE x) (numsE y) = 0) = decide (x = y) := by
  rw [decide_eq_decide, cmpV_zero (l := numsE x) (m := numsE y) rfl]
  exact ⟨numsE_inj, fun h => by rw [h]⟩
theorem inP_more {p : Pt} {s t : Int} (h : s ≤ t) (hp : inP p (cubeB s) = true) : inP p (cubeB t) = true := by
  unfold inP cubeB at *
  simp only [Bool.and_eq_true, decide_eq_true_eq] at *
  omega
theorem bad_more {x : Ed} {s t m n : Int} (h : s ≤ t) (hm : m ≤ n) (hb : badE x s m = false) : badE x t n = false := by
  rw [badE_def] at *
  simp only [Bool.or_eq_false_iff, Bool.and_eq_false_iff, Bool.not_eq_false', decide_eq_true_eq] at *
  refine ⟨hb.1.imp id fun h1 => ⟨h1.1, inP_more h h1.2.1, inP_more h h1.2.2⟩, hb.2.1.imp id (inP_more h), hb.2.2.1, ?_, hb.2.2.2.2⟩
  have := hb.2.2.2.1
  omega
theorem pow_more {a b : Nat} (h : a ≤ b) : (2 : Int) ^ a ≤ 2 ^ b := by
  have h1 := Nat.pow_le_pow_right (n := 2) (by decide) h
  have e : ∀ k : Nat, (2 : Int) ^ k = ((2 ^ k : Nat) : Int) := fun k => by simp
  rw [e, e]
  omega
theorem chk_more {x : Ed} {d m d2 m2 : Int} (h : checkE x d m = 0) (hd : d ≤ d2) (hd2 : d2 ≤ 14) (hm : m ≤ m2) (hm2 : m2 ≤ 256) : checkE x d2 m2 = 0 := by
  unfold checkE at *
  split at h
  · rename_i h1
    rw [decide_eq_true_eq] at h1
    split at h
    · rename_i h2
      simp only [Bool.and_eq_true, decide_eq_true_eq] at h2
      split at h
      · cases h
      · rename_i h3
        rw [Bool.not_eq_true] at h3
        rw [if_pos (by rw [decide_eq_true_eq]; omega), if_pos (by simp only [Bool.and_eq_true, decide_eq_true_eq]; exact ⟨by omega, h2.2⟩), if_neg]
        rw [Bool.not_eq_true]
        exact bad_more (pow_more (by omega)) hm h3
    · cases h
  · cases h
theorem chk_formed {x : Ed} {d m : Int} (h : checkE x d m = 0) : formedE x = true := by
  unfold checkE at h
  split at h
  · split at h
    · rename_i h2
      exact (Bool.and_eq_true_iff.1 h2).2
    · cases h
  · cases h
end Go.Proofs.YtlinhgannajfpaaGreatDoor

/- A comparison of two structs in a plain walk, by its run. -/
namespace Go.Proofs.YtlinhgannajfpaaGreatDoor
open Go Go.RowKit

theorem wpList_cmp {P : Program} {ops : Array Oper} {rest : List Oper} {o : Oper} {a : Act} {w : World} {Q : Exit → Act → World → Prop} (k : BinOp) (ty : TypeId) (x y : Operand) (t2 : TypeId) (ho : o.op = .binOp k ty x y t2) (hw : Region.wanted o (yielded ops a.tmps) = true)
    (v1 v2 : Array Value) (v : Value) (hx : a.eval x = .agg v1) (hy : a.eval y = .agg v2) (hm : P.eqGuardType P.depth ty = false) (hr : ∀ w, (binOp k ty (.agg v1) (.agg v2)).run P w = .ok v w) (h : wpList P ops Q rest (a.put o.dst v) w) : wpList P ops Q (o :: rest) a w := by
  refine wpList_step fun K hK => ?_
  rw [if_pos hw]
  refine op_run (v := v) (w2 := w) ?_ (hK _ _ h)
  unfold execOp
  simp [ho, hx, hy, run_eqGuard_agg, hm, hr]
/-- The same, told for one slot: at any other operation it fails at once. -/
theorem wpList_cmp_d {P : Program} {ops : Array Oper} {rest : List Oper} {o : Oper} {a : Act} {w : World} {Q : Exit → Act → World → Prop} (d : Nat) (_hd : o.dst = some d) (k : BinOp) (ty : TypeId) (x y : Operand) (t2 : TypeId) (ho : o.op = .binOp k ty x y t2) (hw : Region.wanted o (yielded ops a.tmps) = true)
    (v1 v2 : Array Value) (v : Value) (hx : a.eval x = .agg v1) (hy : a.eval y = .agg v2) (hm : P.eqGuardType P.depth ty = false) (hr : ∀ w, (binOp k ty (.agg v1) (.agg v2)).run P w = .ok v w) (h : wpList P ops Q rest (a.put o.dst v) w) : wpList P ops Q (o :: rest) a w :=
  wpList_cmp k ty x y t2 ho hw v1 v2 v hx hy hm hr h
theorem wpList_load_blk_d {P : Program} {ops : Array Oper} {rest : List Oper} {o : Oper} {a : Act} {w : World} {Q : Exit → Act → World → Prop} (d : Nat) (_hd : o.dst = some d) (ty : TypeId) (x : Operand) (ho : o.op = .load ty x) (hw : Region.wanted o (yielded ops a.tmps) = true)
    {b : Nat} {t : TypeId} {vs : List Value} (hB : Arr w b t vs) (hx : a.eval x = .pointer (some ⟨b, 0, none⟩)) (d : TypeDesc) (hu : P.underlying ty = some d)
    (hd : (match d with | .struct _ | .array _ _ => true | _ => false) = true) (hi : (P.info? ty).map (·.size) = some vs.length) (h : wpList P ops Q rest (a.put o.dst (.agg vs.toArray)) w) : wpList P ops Q (o :: rest) a w :=
  wpList_load_blk ty x ho hw hB hx d hu hd hi h
end Go.Proofs.YtlinhgannajfpaaGreatDoor

/- The reference's Same (lists of edits; layer 25). -/
namespace Go.Proofs.YtlinhgannajfpaaGreatDoor
open Go Go.RowKit

theorem same_no {α : Type} [DecidableEq α] {la lb : List α} {j : Nat} {x y : α} (hx : la[j]? = some x) (hy : lb[j]? = some y) (h : x ≠ y) : decide (la = lb) = false := by
  rw [decide_eq_false_iff_not]
  rintro rfl
  rw [hx] at hy
  injection hy with hy
  exact h hy
theorem same_yes {α : Type} [DecidableEq α] {la lb : List α} (hl : la.length = lb.length) (h : ∀ (i : Nat) (x y : α), i < la.length → la[i]? = some x → lb[i]? = some y → x = y) : decide (la = lb) = true := by
  rw [decide_eq_true_iff]
  apply List.ext_getElem hl
  intro i h1 h2
  exact h i _ _ h1 (List.getElem?_eq_getElem h1) (List.getElem?_eq_getElem h2)
set_option maxRecDepth 100000 in
set_option maxHeartbeats 4000000 in
theorem refSame25_any (A A2 : Option Addr) (c c2 : Nat) (la lb : List Ed) (w : World) (hs : Sv w w.heap.size 17 A c (rowsE la)) (hs2 : Sv w w.heap.size 17 A2 c2 (rowsE lb)) (hla : la.length ≤ 1000000) :
    Calls Tryz.prog 21 #[.slice A la.length c, .slice A2 lb.length c2] w fun e w' => e = .returned (.bool (decide (la = lb))) ∧ Ext w w' := by
  have hm := mixed
  have HS := Lib.hid hs; clear hs
  have HS2 := Lib.hid hs2; clear hs2
  by_cases hl : la.length = lb.length
  · have HL := Lib.hid hl
    have hb : ((la.length : Int) != (lb.length : Int)) = false := by simp [hl]
    clear hl
    go_enter Tryz.func21, Tryz.ntmps21
    go_wp2
    go_loopw [5] (fun i wr => ∃ j : Nat, j ≤ la.length ∧ i = .int .i64 j ∧ (∀ (i : Nat) (x y : Ed), i < j → la[i]? = some x → lb[i]? = some y → x = y) ∧ Ext w wr) (fun i _ => la.length - (intOf i).toNat)
    case atStart => exact ⟨0, Nat.zero_le _, rfl, fun i x y hi => by omega, Ext.refl _⟩
    case round =>
      obtain ⟨j, hj, rfl, hno, hx⟩ := hrel
      have HNO := Lib.hid hno; clear hno
      have HX := Lib.hid hx
      by_cases hlt : j < la.length
      · obtain ⟨x, hxj⟩ : ∃ x, la[j]? = some x := ⟨_, List.getElem?_eq_getElem hlt⟩
        have hlt2 : j < lb.length := by have := HL.out; omega
        obtain ⟨y, hyj⟩ : ∃ y, lb[j]? = some y := ⟨_, List.getElem?_eq_getElem hlt2⟩
        obtain ⟨b1, o1, rfl, hbl, hra⟩ := ed_row (HS.out.ext hx) hxj
        obtain ⟨b2, o2, rfl, hbl2, hrb⟩ := ed_row (HS2.out.ext hx) hyj
        have HRX := Lib.hid (fun w2 (h : Ext wr w2) => rangeAt_ext hra hbl h)
        have HRY := Lib.hid (fun w2 (h : Ext wr w2) => rangeAt_ext hrb hbl2 h)
        have hn := neqEd_run x y
        have HXJ := Lib.hid hxj
        have HYJ := Lib.hid hyj
        have hj0 : 0 ≤ (j : Int) := by omega
        have hj1 : ¬ ((la.length : Int) ≤ (j : Int)) := by omega
        have hj2 : ¬ ((lb.length : Int) ≤ (j : Int)) := by omega
        generalize hbe : decide (x ≠ y) = be at hn
        have HBE := Lib.hid hbe
        clear hxj hyj hbe hx hra hrb hbl hbl2
        cases be
        · go_upto_region 6 with fail
          refine wp_region_rel (fun i v w' => match i with
              | 0 => v = .slice (some ⟨b1, o1, none⟩) la.length c
              | 1 => v = .int .i64 (j : Int)
              | 2 => v = .pointer (some ⟨b1, o1 + j * 17, none⟩)
              | 3 => v = .agg x.cells.toArray
              | 4 => v = .slice (some ⟨b2, o2, none⟩) lb.length c2
              | 5 => v = .int .i64 (j : Int)
              | 6 => v = .pointer (some ⟨b2, o2 + j * 17, none⟩)
              | 7 => v = .agg y.cells.toArray
              | 8 => v = .bool false
              | _ => True) hm (by kernel_rfl) (by kernel_rfl) rfl ?_ ?_ ?_
          · intro i v w1 w2 hx h
            match i, h with
            | 0, h => exact h
            | 1, h => exact h
            | 2, h => exact h
            | 3, h => exact h
            | 4, h => exact h
            | 5, h => exact h
            | 6, h => exact h
            | 7, h => exact h
            | 8, h => exact h
            | i + 9, h => exact h
          · intro i o ho b w1 hx hmiss hdep K hK
            match i, ho with
            | 0, ho =>
              obtain rfl := Option.some.inj ho
              have e0 : b.tmps[0]? = some (.slice (some ⟨b1, o1, none⟩) la.length c) := hmiss 0 rfl
              refine want_none rfl ?_
              exact op_move rfl (eval_of e0) (hK _ w1 (Ext.refl _) rfl)
            | 1, ho =>
              obtain rfl := Option.some.inj ho
              have e5 : b.tmps[5]? = some (.int .i64 (j : Int)) := hmiss 5 rfl
              refine want_none rfl ?_
              exact op_move rfl (eval_of e5) (hK _ w1 (Ext.refl _) rfl)
            | 2, ho =>
              obtain rfl := Option.some.inj ho
              obtain ⟨v17, g17, e17⟩ := hdep 0 rfl
              have g17 : v17 = .slice (some ⟨b1, o1, none⟩) la.length c := g17
              subst g17
              have e17 := e17 17 rfl
              obtain ⟨v18, g18, e18⟩ := hdep 1 rfl
              have g18 : v18 = .int .i64 (j : Int) := g18
              subst g18
              have e18 := e18 18 rfl
              refine want_none rfl ?_
              exact op_run (by unfold execOp; simp [e17, e18, Act.eval, go_sem, hlt, hj0]) (hK _ w1 (Ext.refl _) rfl)
            | 3, ho =>
              obtain rfl := Option.some.inj ho
              obtain ⟨v19, g19, e19⟩ := hdep 2 rfl
              have g19 : v19 = .pointer (some ⟨b1, o1 + j * 17, none⟩) := g19
              subst g19
              have e19 := e19 19 rfl
              refine want_none rfl ?_
              exact wp_load_mid 29 (.tmp 19) rfl (b1) (o1 + j * 17) (eval_of e19) (x.cells) _ (HRX.out _ hx) Tryz.underlying29 rfl (by kernel_rfl) (hK _ w1 (Ext.refl _) rfl)
            | 4, ho =>
              obtain rfl := Option.some.inj ho
              have e1 : b.tmps[1]? = some (.slice (some ⟨b2, o2, none⟩) lb.length c2) := hmiss 1 rfl
              refine want_none rfl ?_
              exact op_move rfl (eval_of e1) (hK _ w1 (Ext.refl _) rfl)
            | 5, ho =>
              obtain rfl := Option.some.inj ho
              have e5 : b.tmps[5]? = some (.int .i64 (j : Int)) := hmiss 5 rfl
              refine want_none rfl ?_
              exact op_move rfl (eval_of e5) (hK _ w1 (Ext.refl _) rfl)
            | 6, ho =>
              obtain rfl := Option.some.inj ho
              obtain ⟨v21, g21, e21⟩ := hdep 4 rfl
              have g21 : v21 = .slice (some ⟨b2, o2, none⟩) lb.length c2 := g21
              subst g21
              have e21 := e21 21 rfl
              obtain ⟨v22, g22, e22⟩ := hdep 5 rfl
              have g22 : v22 = .int .i64 (j : Int) := g22
              subst g22
              have e22 := e22 22 rfl
              refine want_none rfl ?_
              exact op_run (by unfold execOp; simp [e21, e22, Act.eval, go_sem, hlt2, hj0]) (hK _ w1 (Ext.refl _) rfl)
            | 7, ho =>
              obtain rfl := Option.some.inj ho
              obtain ⟨v23, g23, e23⟩ := hdep 6 rfl
              have g23 : v23 = .pointer (some ⟨b2, o2 + j * 17, none⟩) := g23
              subst g23
              have e23 := e23 23 rfl
              refine want_none rfl ?_
              exact wp_load_mid 29 (.tmp 23) rfl (b2) (o2 + j * 17) (eval_of e23) (y.cells) _ (HRY.out _ hx) Tryz.underlying29 rfl (by kernel_rfl) (hK _ w1 (Ext.refl _) rfl)
            | 8, ho =>
              obtain rfl := Option.some.inj ho
              obtain ⟨v20, g20, e20⟩ := hdep 3 rfl
              have g20 : v20 = .agg x.cells.toArray := g20
              subst g20
              have e20 := e20 20 rfl
              obtain ⟨v24, g24, e24⟩ := hdep 7 rfl
              have g24 : v24 = .agg y.cells.toArray := g24
              subst g24
              have e24 := e24 24 rfl
              refine want_none rfl ?_
              exact op_run (by unfold execOp; simp [e20, e24, Act.eval, go_sem, hn]) (hK _ w1 (Ext.refl _) rfl)
            | i + 9, ho => cases ho
          · intro V w9 hx hg
            have g0 : V 0 = .slice (some ⟨b1, o1, none⟩) la.length c := hg 0 (by decide)
            have g1 : V 1 = .int .i64 (j : Int) := hg 1 (by decide)
            have g2 : V 2 = .pointer (some ⟨b1, o1 + j * 17, none⟩) := hg 2 (by decide)
            have g3 : V 3 = .agg x.cells.toArray := hg 3 (by decide)
            have g4 : V 4 = .slice (some ⟨b2, o2, none⟩) lb.length c2 := hg 4 (by decide)
            have g5 : V 5 = .int .i64 (j : Int) := hg 5 (by decide)
            have g6 : V 6 = .pointer (some ⟨b2, o2 + j * 17, none⟩) := hg 6 (by decide)
            have g7 : V 7 = .agg y.cells.toArray := hg 7 (by decide)
            have g8 : V 8 = .bool false := hg 8 (by decide)
            simp only [List.length_cons, List.length_nil, fillAllN, dstOf, Act.put, List.getElem?_toArray, List.getElem?_cons_zero, List.getElem?_cons_succ, Option.bind_some, g0, g1, g2, g3, g4, g5, g6, g7, g8, List.setIfInBounds_toArray, List.set_cons_zero, List.set_cons_succ]
            clear g0 g1 g2 g3 g4 g5 g6 g7 g8 hg
            have HX9 := Lib.hid (HX.out.trans hx)
            go_wp2_with fail
            go_roundw
            case rel =>
              refine ⟨j + 1, by omega, by go_num, fun i x' y' hi h h' => ?_, HX9.out⟩
              rcases Nat.lt_succ_iff_lt_or_eq.1 hi with h1 | rfl
              · exact HNO.out i x' y' h1 h h'
              · rw [HXJ.out] at h; injection h with h; rw [HYJ.out] at h'; injection h' with h'; subst h h'; simpa using HBE.out
            case measure => simp [intOf]; omega
        · go_upto_region 6 with fail
          refine wp_region_rel (fun i v w' => match i with
              | 0 => v = .slice (some ⟨b1, o1, none⟩) la.length c
              | 1 => v = .int .i64 (j : Int)
              | 2 => v = .pointer (some ⟨b1, o1 + j * 17, none⟩)
              | 3 => v = .agg x.cells.toArray
              | 4 => v = .slice (some ⟨b2, o2, none⟩) lb.length c2
              | 5 => v = .int .i64 (j : Int)
              | 6 => v = .pointer (some ⟨b2, o2 + j * 17, none⟩)
              | 7 => v = .agg y.cells.toArray
              | 8 => v = .bool true
              | _ => True) hm (by kernel_rfl) (by kernel_rfl) rfl ?_ ?_ ?_
          · intro i v w1 w2 hx h
            match i, h with
            | 0, h => exact h
            | 1, h => exact h
            | 2, h => exact h
            | 3, h => exact h
            | 4, h => exact h
            | 5, h => exact h
            | 6, h => exact h
            | 7, h => exact h
            | 8, h => exact h
            | i + 9, h => exact h
          · intro i o ho b w1 hx hmiss hdep K hK
            match i, ho with
            | 0, ho =>
              obtain rfl := Option.some.inj ho
              have e0 : b.tmps[0]? = some (.slice (some ⟨b1, o1, none⟩) la.length c) := hmiss 0 rfl
              refine want_none rfl ?_
              exact op_move rfl (eval_of e0) (hK _ w1 (Ext.refl _) rfl)
            | 1, ho =>
              obtain rfl := Option.some.inj ho
              have e5 : b.tmps[5]? = some (.int .i64 (j : Int)) := hmiss 5 rfl
              refine want_none rfl ?_
              exact op_move rfl (eval_of e5) (hK _ w1 (Ext.refl _) rfl)
            | 2, ho =>
              obtain rfl := Option.some.inj ho
              obtain ⟨v17, g17, e17⟩ := hdep 0 rfl
              have g17 : v17 = .slice (some ⟨b1, o1, none⟩) la.length c := g17
              subst g17
              have e17 := e17 17 rfl
              obtain ⟨v18, g18, e18⟩ := hdep 1 rfl
              have g18 : v18 = .int .i64 (j : Int) := g18
              subst g18
              have e18 := e18 18 rfl
              refine want_none rfl ?_
              exact op_run (by unfold execOp; simp [e17, e18, Act.eval, go_sem, hlt, hj0]) (hK _ w1 (Ext.refl _) rfl)
            | 3, ho =>
              obtain rfl := Option.some.inj ho
              obtain ⟨v19, g19, e19⟩ := hdep 2 rfl
              have g19 : v19 = .pointer (some ⟨b1, o1 + j * 17, none⟩) := g19
              subst g19
              have e19 := e19 19 rfl
              refine want_none rfl ?_
              exact wp_load_mid 29 (.tmp 19) rfl (b1) (o1 + j * 17) (eval_of e19) (x.cells) _ (HRX.out _ hx) Tryz.underlying29 rfl (by kernel_rfl) (hK _ w1 (Ext.refl _) rfl)
            | 4, ho =>
              obtain rfl := Option.some.inj ho
              have e1 : b.tmps[1]? = some (.slice (some ⟨b2, o2, none⟩) lb.length c2) := hmiss 1 rfl
              refine want_none rfl ?_
              exact op_move rfl (eval_of e1) (hK _ w1 (Ext.refl _) rfl)
            | 5, ho =>
              obtain rfl := Option.some.inj ho
              have e5 : b.tmps[5]? = some (.int .i64 (j : Int)) := hmiss 5 rfl
              refine want_none rfl ?_
              exact op_move rfl (eval_of e5) (hK _ w1 (Ext.refl _) rfl)
            | 6, ho =>
              obtain rfl := Option.some.inj ho
              obtain ⟨v21, g21, e21⟩ := hdep 4 rfl
              have g21 : v21 = .slice (some ⟨b2, o2, none⟩) lb.length c2 := g21
              subst g21
              have e21 := e21 21 rfl
              obtain ⟨v22, g22, e22⟩ := hdep 5 rfl
              have g22 : v22 = .int .i64 (j : Int) := g22
              subst g22
              have e22 := e22 22 rfl
              refine want_none rfl ?_
              exact op_run (by unfold execOp; simp [e21, e22, Act.eval, go_sem, hlt2, hj0]) (hK _ w1 (Ext.refl _) rfl)
            | 7, ho =>
              obtain rfl := Option.some.inj ho
              obtain ⟨v23, g23, e23⟩ := hdep 6 rfl
              have g23 : v23 = .pointer (some ⟨b2, o2 + j * 17, none⟩) := g23
              subst g23
              have e23 := e23 23 rfl
              refine want_none rfl ?_
              exact wp_load_mid 29 (.tmp 23) rfl (b2) (o2 + j * 17) (eval_of e23) (y.cells) _ (HRY.out _ hx) Tryz.underlying29 rfl (by kernel_rfl) (hK _ w1 (Ext.refl _) rfl)
            | 8, ho =>
              obtain rfl := Option.some.inj ho
              obtain ⟨v20, g20, e20⟩ := hdep 3 rfl
              have g20 : v20 = .agg x.cells.toArray := g20
              subst g20
              have e20 := e20 20 rfl
              obtain ⟨v24, g24, e24⟩ := hdep 7 rfl
              have g24 : v24 = .agg y.cells.toArray := g24
              subst g24
              have e24 := e24 24 rfl
              refine want_none rfl ?_
              exact op_run (by unfold execOp; simp [e20, e24, Act.eval, go_sem, hn]) (hK _ w1 (Ext.refl _) rfl)
            | i + 9, ho => cases ho
          · intro V w9 hx hg
            have g0 : V 0 = .slice (some ⟨b1, o1, none⟩) la.length c := hg 0 (by decide)
            have g1 : V 1 = .int .i64 (j : Int) := hg 1 (by decide)
            have g2 : V 2 = .pointer (some ⟨b1, o1 + j * 17, none⟩) := hg 2 (by decide)
            have g3 : V 3 = .agg x.cells.toArray := hg 3 (by decide)
            have g4 : V 4 = .slice (some ⟨b2, o2, none⟩) lb.length c2 := hg 4 (by decide)
            have g5 : V 5 = .int .i64 (j : Int) := hg 5 (by decide)
            have g6 : V 6 = .pointer (some ⟨b2, o2 + j * 17, none⟩) := hg 6 (by decide)
            have g7 : V 7 = .agg y.cells.toArray := hg 7 (by decide)
            have g8 : V 8 = .bool true := hg 8 (by decide)
            simp only [List.length_cons, List.length_nil, fillAllN, dstOf, Act.put, List.getElem?_toArray, List.getElem?_cons_zero, List.getElem?_cons_succ, Option.bind_some, g0, g1, g2, g3, g4, g5, g6, g7, g8, List.setIfInBounds_toArray, List.set_cons_zero, List.set_cons_succ]
            clear g0 g1 g2 g3 g4 g5 g6 g7 g8 hg
            have HX9 := Lib.hid (HX.out.trans hx)
            go_wp2_with fail
            go_ret
            exact ⟨ret_bool (same_no HXJ.out HYJ.out (by simpa using HBE.out)).symm, HX9.out⟩
      · obtain rfl : j = la.length := by omega
        go_wp2
        go_ret
        exact ⟨ret_bool (same_yes HL.out HNO.out).symm, HX.out⟩
  · have hb : ((la.length : Int) != (lb.length : Int)) = true := by rw [bne_iff_ne]; omega
    have HL := Lib.hid hl
    clear hl
    go_enter Tryz.func21, Tryz.ntmps21
    go_wp2
    go_ret
    exact ⟨ret_bool (decide_eq_false (fun h => HL.out (by rw [h]))).symm, Ext.refl _⟩
end Go.Proofs.YtlinhgannajfpaaGreatDoor

/- The reference's Compare. -/
namespace Go.Proofs.YtlinhgannajfpaaGreatDoor
open Go Go.RowKit

theorem cells_nums (x : Ed) (k : Nat) : x.cells[k]? = ((numsE x)[k]?).map (fun v => .int .i64 v) := by
  rw [← List.getElem?_map]; rfl
set_option maxRecDepth 100000 in
set_option maxHeartbeats 4000000 in
theorem refCompare_any (x y : Ed) (w : World) : Calls Tryz.prog 20 #[.agg x.cells.toArray, .agg y.cells.toArray] w fun e w' => e = .returned (.int .i64 (cmpV (numsE x) (numsE y))) ∧ Ext w w' := by
  have hm := mixed
  have HB0 := Lib.hid ((Arr.new w 29 x.cells).alloc (.cells y.cells.toArray 29))
  have HB1 := Lib.hid (Arr.new1 w (.cells x.cells.toArray 29) 29 y.cells)
  have HX0 := Lib.hid (show Ext w ((w.alloc (.cells x.cells.toArray 29)).alloc (.cells y.cells.toArray 29)) from ((Ext.refl w).alloc _).alloc _)
  go_enter Tryz.func20, Tryz.ntmps20
  go_upto_region 1 with fail
  obtain ⟨W0, hW⟩ : ∃ W, W = (w.alloc (.cells x.cells.toArray 29)).alloc (.cells y.cells.toArray 29) := ⟨_, rfl⟩
  rw [← hW] at HB0 HB1 HX0
  rw [← hW]
  clear hW
  go_upto_region 2 with (first
    | (refine wpList_load_blk 29 (.tmp 2) rfl rfl HB0.out rfl _ Tryz.underlying29 rfl (by kernel_rfl) ?_)
    | (go_at_call 67; refine (refNumbers_any x _).mono ?_; rintro e W1 ⟨b1, rfl, ha1, hx1, _⟩))
  have HA1 := Lib.hid ha1; have HX1 := Lib.hid (HX0.out.trans hx1); have HB11 := Lib.hid (HB1.out.ext hx1)
  clear ha1 hx1
  go_upto_region 3 with (first
    | (refine wpList_load_blk 29 (.tmp 3) rfl rfl HB11.out rfl _ Tryz.underlying29 rfl (by kernel_rfl) ?_)
    | (go_at_call 67; refine (refNumbers_any y _).mono ?_; rintro e W2 ⟨b2, rfl, ha2, hx2, _⟩))
  have HA2 := Lib.hid ha2; have HX2 := Lib.hid (HX1.out.trans hx2); have HA12 := Lib.hid (HA1.out.ext hx2)
  clear ha2 hx2
  go_wp2_with fail
  go_loopw [7] (fun i wr => ∃ k : Nat, i = .int .i64 k ∧ k ≤ 17 ∧ (∀ j, j < k → (numsE x)[j]? = (numsE y)[j]?) ∧ Ext W2 wr) (fun i _ => 17 - (intOf i).toNat)
  case atStart => exact ⟨0, rfl, by omega, fun j hj => by omega, Ext.refl _⟩
  case round =>
    obtain ⟨k, rfl, hk, hg, hx⟩ := hrel
    have HG := Lib.hid hg
    by_cases hlt : k < 17
    · obtain ⟨u, hu⟩ : ∃ u, (numsE x)[k]? = some u := ⟨_, List.getElem?_eq_getElem (show k < (numsE x).length from hlt)⟩
      obtain ⟨v, hv⟩ : ∃ v, (numsE y)[k]? = some v := ⟨_, List.getElem?_eq_getElem (show k < (numsE y).length from hlt)⟩
      have c1 := (HA12.out.ext hx).cell k
      have c2 := (HA2.out.ext hx).cell k
      rw [cells_nums, hu] at c1
      rw [cells_nums, hv] at c2
      simp only [Option.map_some] at c1 c2
      have l1 := (HA12.out.ext hx).lt
      have l2 := (HA2.out.ext hx).lt
      have HX := Lib.hid hx
      have HU := Lib.hid hu; have HV := Lib.hid hv
      have hG := near_old
      have hk0 : 0 ≤ (k : Int) := by omega
      have hk1 : ¬ ((17 : Int) ≤ (k : Int)) := by omega
      have hk2 : (k : Int) < 17 := by omega
      clear hg hx hu hv
      go_upto_region 6 with fail
      refine wp_region_near (by assumption) (by kernel_rfl) ?_
      repeat (go_big_quiet_step (fail))
      refine wpQuiet_nil ?_
      intro w1 hw1
      have hy := Ext.of_near hw1
      clear hw1
      have HY := Lib.hid hy
      have l1' := Nat.lt_of_lt_of_le l1 hy.size
      have l2' := Nat.lt_of_lt_of_le l2 hy.size
      have c1' := (hy.below.cell (p := ⟨b1, k, none⟩) l1).trans c1
      have c2' := (hy.below.cell (p := ⟨b2, k, none⟩) l2).trans c2
      clear c1 c2 l1 l2 hy
      by_cases h1 : u < v
      · have HC := Lib.hid (cmpV_at HG.out HU.out HV.out (by omega))
        go_wp2_with fail
        go_ret
        exact ⟨by rw [HC.out]; unfold cmpI; rw [if_pos (by omega)]; rfl, HX2.out.trans (HX.out.trans HY.out)⟩
      · have h1' : v ≤ u := by omega
        go_upto_region 8 with fail
        refine wp_region_near (by assumption) (by kernel_rfl) ?_
        repeat (go_big_quiet_step (fail))
        refine wpQuiet_nil ?_
        intro w1 hw1
        have hy := Ext.of_near hw1
        clear hw1
        have HY2 := Lib.hid hy
        by_cases h2 : v < u
        · have HC := Lib.hid (cmpV_at HG.out HU.out HV.out (by omega))
          go_wp2_with fail
          go_ret
          exact ⟨by rw [HC.out]; unfold cmpI; rw [if_neg (by omega), if_pos (by omega)]; rfl, HX2.out.trans (HX.out.trans (HY.out.trans HY2.out))⟩
        · have h3 : u = v := by omega
          have HG2 := Lib.hid (show ∀ j, j < k + 1 → (numsE x)[j]? = (numsE y)[j]? from fun j hj => by
            by_cases hjk : j < k
            · exact HG.out j hjk
            · obtain rfl : j = k := by omega
              rw [HU.out, HV.out, h3])
          have h2' : u ≤ v := by omega
          go_wp2_with fail
          go_roundw
          case rel => exact ⟨k + 1, by go_num, by omega, HG2.out, HX.out.trans (HY.out.trans HY2.out)⟩
          case measure => simp [intOf]; omega
    · obtain rfl : k = 17 := by omega
      have HE := Lib.hid (show numsE x = numsE y from List.ext_getElem? fun j => by
        by_cases hj : j < 17
        · exact HG.out j hj
        · rw [List.getElem?_eq_none (show (numsE x).length ≤ j by show 17 ≤ j; omega), List.getElem?_eq_none (show (numsE y).length ≤ j by show 17 ≤ j; omega)])
      go_wp2_with fail
      go_ret
      exact ⟨by rw [HE.out, cmpV_self]; rfl, HX2.out.trans hx⟩
end Go.Proofs.YtlinhgannajfpaaGreatDoor

/- The reference's Sorted. -/
namespace Go.Proofs.YtlinhgannajfpaaGreatDoor
open Go Go.RowKit

theorem IsOrd.nil : IsOrd [] [] := ⟨List.Pairwise.nil, fun _ => Iff.rfl⟩
theorem IsOrd.seen {l o : List Ed} {k : Nat} {x : Ed} (h : IsOrd (l.take k) o) (hx : l[k]? = some x) (hm : x ∈ o) : IsOrd (l.take (k + 1)) o :=
  ⟨h.srt, fun q => by
    rw [take_snocR hx, List.mem_append, List.mem_singleton, h.mem]
    exact ⟨.inl, fun e => e.elim id fun e => e ▸ (h.mem x).1 hm⟩⟩
theorem IsOrd.put {l o : List Ed} {k q : Nat} {x : Ed} (h : IsOrd (l.take k) o) (hx : l[k]? = some x) (ha : AtE o x q) (hlo : ∀ y, 0 < q → o[q - 1]? = some y → befE y x = true) : IsOrd (l.take (k + 1)) (o.take q ++ (x :: o.drop q)) :=
  ⟨ha.put h.srt hlo, fun p => by
    rw [put_mem, h.mem, take_snocR hx, List.mem_append, List.mem_singleton]
    exact or_comm⟩
set_option maxRecDepth 100000 in
set_option maxHeartbeats 8000000 in
theorem refSorted_any (A : Option Addr) (c : Nat) (l : List Ed) (w : World) (hs : Sv w w.heap.size 17 A c (rowsE l)) (hb : l.length ≤ 1034834473200) :
    Calls Tryz.prog 23 #[.slice A l.length c] w fun e w' => ∃ m, IsOrd l m ∧ RetE m w e w' := by
  have hm := mixed
  obtain ⟨i0, hi, hz0, hz1, hz2⟩ := info_parts infoEd
  have HI := Lib.hid hi; have HZ := Lib.hid hz0; have HZ1 := Lib.hid hz1; have HZ2 := Lib.hid hz2; clear hi hz0 hz1 hz2
  have HS := Lib.hid hs
  have hln : l.length ≤ 9223372036854775807 := by omega
  clear hs
  go_enter Tryz.func23, Tryz.ntmps23
  go_wp2_with fail
  go_loopw [3, 4, 5, 6] (fun ov kv _ _ wr => ∃ (k : Nat) (o : List Ed) (A1 : Option Addr) (c1 : Nat), kv = .int .i64 k ∧ k ≤ l.length ∧ ov = .slice A1 o.length c1 ∧ o.length ≤ k ∧ Sv wr wr.heap.size 17 A1 c1 (rowsE o) ∧ IsOrd (l.take k) o ∧ Ext w wr) (fun _ kv _ _ _ => l.length - (intOf kv).toNat)
  case atStart => exact ⟨0, [], none, 0, rfl, Nat.zero_le _, rfl, Nat.le_refl _, Sv.nil _ _ _, IsOrd.nil, Ext.refl _⟩
  case round =>
    obtain ⟨k, o, A1, c1, rfl, hk, rfl, hok, ho, hio, hx⟩ := hrel
    have HO := Lib.hid ho; have HX := Lib.hid hx; have HIO := Lib.hid hio
    have hoc := ho.le
    rw [rowsE_length] at hoc
    clear ho hx hio
    by_cases hlt : k < l.length
    · obtain ⟨x, hxk⟩ : ∃ x, l[k]? = some x := ⟨_, List.getElem?_eq_getElem hlt⟩
      obtain ⟨bl, ol, rfl, hbl, hra⟩ := ed_row HS.out hxk
      have HRA := Lib.hid (rangeAt_ext hra hbl HX.out)
      have HXK := Lib.hid hxk
      have HRAX := Lib.hid (fun wy (hy : Ext wr wy) => rangeAt_ext HRA.out (Nat.lt_of_lt_of_le hbl HX.out.size) hy)
      have hk0 : 0 ≤ (k : Int) := by omega
      have hk1 : ¬ ((l.length : Int) ≤ (k : Int)) := by omega
      clear hxk hra hbl
      go_wp2_with fail
      go_loopw [5] (fun av wy => ∃ q : Nat, av = .int .i64 q ∧ AtE o x q ∧ Ext wr wy) (fun av _ => (intOf av).toNat)
      case atStart => exact ⟨o.length, rfl, AtE.start o x, Ext.refl _⟩
      case round =>
        obtain ⟨q, rfl, hat, hx⟩ := hrel
        have HQO := Lib.hid hat.le
        have HQC := Lib.hid (Nat.le_trans hat.le hoc)
        have hqo := hat.le
        have HAT := Lib.hid hat; have HXQ := Lib.hid hx
        clear hat hx
        rcases Nat.eq_zero_or_pos q with hqz | hqp0
        · have hz1 : ¬ (0 < q) := by omega
          have hz2 : ¬ ((0 : Int) < (q : Int)) := by omega
          have HIO2 := Lib.hid (HIO.out.put HXK.out HAT.out (fun y h => absurd h hz1))
          clear hqz
          go_upto_region 6 with fail
          refine wp_region_rel (fun i v w' => match i with
              | 0 => v = .int .i64 (q : Int)
              | 1 => v = .bool false
              | 2 => v = .bool false
              | 3 => v = undef
              | 4 => v = undef
              | 5 => v = undef
              | 6 => v = undef
              | 7 => v = undef
              | 8 => v = undef
              | 9 => v = undef
              | 10 => v = undef
              | 11 => v = undef
              | 12 => v = undef
              | 13 => v = undef
              | 14 => v = .bool false
              | _ => True) hm (by kernel_rfl) (by kernel_rfl) rfl ?_ ?_ ?_
          · intro i v w1 w2 hx h
            match i, h with
            | 0, h => exact h
            | 1, h => exact h
            | 2, h => exact h
            | 3, h => exact h
            | 4, h => exact h
            | 5, h => exact h
            | 6, h => exact h
            | 7, h => exact h
            | 8, h => exact h
            | 9, h => exact h
            | 10, h => exact h
            | 11, h => exact h
            | 12, h => exact h
            | 13, h => exact h
            | 14, h => exact h
            | i + 15, h => exact h
          · intro i o ho b w1 hx hmiss hdep K hK
            match i, ho with
            | 0, ho =>
              obtain rfl := Option.some.inj ho
              have e5 : b.tmps[5]? = some (.int .i64 (q : Int)) := hmiss 5 rfl
              refine want_none rfl ?_
              exact op_move rfl (eval_of e5) (hK _ w1 (Ext.refl _) rfl)
            | 1, ho =>
              obtain rfl := Option.some.inj ho
              obtain ⟨v15, g15, e15⟩ := hdep 0 rfl
              have g15 : v15 = .int .i64 (q : Int) := g15
              subst g15
              have e15 := e15 15 rfl
              refine want_none rfl ?_
              exact op_run (by unfold execOp; simp [e15, Act.eval, go_sem, hz1]) (hK _ w1 (Ext.refl _) rfl)
            | 2, ho =>
              obtain rfl := Option.some.inj ho
              obtain ⟨v16, g16, e16⟩ := hdep 1 rfl
              have g16 : v16 = .bool false := g16
              subst g16
              have e16 := e16 16 rfl
              refine want_none rfl ?_
              exact op_move rfl (eval_of e16) (hK _ w1 (Ext.refl _) rfl)
            | 3, ho =>
              obtain rfl := Option.some.inj ho
              obtain ⟨vg, gg, eg⟩ := hdep 2 rfl
              have gg : vg = .bool false := gg
              subst gg
              have eg := eg 17 rfl
              exact want_no rfl rfl (.inl eg) (hK _ w1 (Ext.refl _) rfl)
            | 4, ho =>
              obtain rfl := Option.some.inj ho
              obtain ⟨vg, gg, eg⟩ := hdep 2 rfl
              have gg : vg = .bool false := gg
              subst gg
              have eg := eg 17 rfl
              exact want_no rfl rfl (.inl eg) (hK _ w1 (Ext.refl _) rfl)
            | 5, ho =>
              obtain rfl := Option.some.inj ho
              obtain ⟨vg, gg, eg⟩ := hdep 2 rfl
              have gg : vg = .bool false := gg
              subst gg
              have eg := eg 17 rfl
              exact want_no rfl rfl (.inl eg) (hK _ w1 (Ext.refl _) rfl)
            | 6, ho =>
              obtain rfl := Option.some.inj ho
              obtain ⟨vg, gg, eg⟩ := hdep 2 rfl
              have gg : vg = .bool false := gg
              subst gg
              have eg := eg 17 rfl
              exact want_no rfl rfl (.inl eg) (hK _ w1 (Ext.refl _) rfl)
            | 7, ho =>
              obtain rfl := Option.some.inj ho
              obtain ⟨vg, gg, eg⟩ := hdep 2 rfl
              have gg : vg = .bool false := gg
              subst gg
              have eg := eg 17 rfl
              exact want_no rfl rfl (.inl eg) (hK _ w1 (Ext.refl _) rfl)
            | 8, ho =>
              obtain rfl := Option.some.inj ho
              obtain ⟨vg, gg, eg⟩ := hdep 2 rfl
              have gg : vg = .bool false := gg
              subst gg
              have eg := eg 17 rfl
              exact want_no rfl rfl (.inl eg) (hK _ w1 (Ext.refl _) rfl)
            | 9, ho =>
              obtain rfl := Option.some.inj ho
              obtain ⟨vg, gg, eg⟩ := hdep 2 rfl
              have gg : vg = .bool false := gg
              subst gg
              have eg := eg 17 rfl
              exact want_no rfl rfl (.inl eg) (hK _ w1 (Ext.refl _) rfl)
            | 10, ho =>
              obtain rfl := Option.some.inj ho
              obtain ⟨vg, gg, eg⟩ := hdep 2 rfl
              have gg : vg = .bool false := gg
              subst gg
              have eg := eg 17 rfl
              exact want_no rfl rfl (.inl eg) (hK _ w1 (Ext.refl _) rfl)
            | 11, ho =>
              obtain rfl := Option.some.inj ho
              obtain ⟨vg, gg, eg⟩ := hdep 2 rfl
              have gg : vg = .bool false := gg
              subst gg
              have eg := eg 17 rfl
              exact want_no rfl rfl (.inl eg) (hK _ w1 (Ext.refl _) rfl)
            | 12, ho =>
              obtain rfl := Option.some.inj ho
              obtain ⟨vg, gg, eg⟩ := hdep 2 rfl
              have gg : vg = .bool false := gg
              subst gg
              have eg := eg 17 rfl
              exact want_no rfl rfl (.inl eg) (hK _ w1 (Ext.refl _) rfl)
            | 13, ho =>
              obtain rfl := Option.some.inj ho
              obtain ⟨vg, gg, eg⟩ := hdep 2 rfl
              have gg : vg = .bool false := gg
              subst gg
              have eg := eg 17 rfl
              exact want_no rfl rfl (.inl eg) (hK _ w1 (Ext.refl _) rfl)
            | 14, ho =>
              obtain rfl := Option.some.inj ho
              obtain ⟨v17, g17, e17⟩ := hdep 2 rfl
              have g17 : v17 = .bool false := g17
              subst g17
              have e17 := e17 17 rfl
              obtain ⟨v28, g28, e28⟩ := hdep 13 rfl
              have g28 : v28 = undef := g28
              subst g28
              have e28 := e28 28 rfl
              refine want_none rfl ?_
              exact op_run (by unfold execOp; simp [e17, e28, Act.eval, go_sem]) (hK _ w1 (Ext.refl _) rfl)
            | i + 15, ho => cases ho
          · intro V w9 hx hg
            have g0 : V 0 = .int .i64 (q : Int) := hg 0 (by decide)
            have g1 : V 1 = .bool false := hg 1 (by decide)
            have g2 : V 2 = .bool false := hg 2 (by decide)
            have g3 : V 3 = undef := hg 3 (by decide)
            have g4 : V 4 = undef := hg 4 (by decide)
            have g5 : V 5 = undef := hg 5 (by decide)
            have g6 : V 6 = undef := hg 6 (by decide)
            have g7 : V 7 = undef := hg 7 (by decide)
            have g8 : V 8 = undef := hg 8 (by decide)
            have g9 : V 9 = undef := hg 9 (by decide)
            have g10 : V 10 = undef := hg 10 (by decide)
            have g11 : V 11 = undef := hg 11 (by decide)
            have g12 : V 12 = undef := hg 12 (by decide)
            have g13 : V 13 = undef := hg 13 (by decide)
            have g14 : V 14 = .bool false := hg 14 (by decide)
            simp only [List.length_cons, List.length_nil, fillAllN, dstOf, Act.put, List.getElem?_toArray, List.getElem?_cons_zero, List.getElem?_cons_succ, Option.bind_some, g0, g1, g2, g3, g4, g5, g6, g7, g8, g9, g10, g11, g12, g13, g14, List.setIfInBounds_toArray, List.set_cons_zero, List.set_cons_succ]
            clear g0 g1 g2 g3 g4 g5 g6 g7 g8 g9 g10 g11 g12 g13 g14 hg
            have HX6 := Lib.hid (HXQ.out.trans hx)
            clear hx
            go_upto_region 8 with fail
            refine wp_region_rel (fun i v w' => match i with
                | 0 => v = .int .i64 (q : Int)
                | 1 => v = .bool false
                | 2 => v = .bool false
                | 3 => v = undef
                | 4 => v = undef
                | 5 => v = undef
                | 6 => v = undef
                | 7 => v = undef
                | 8 => v = undef
                | 9 => v = undef
                | 10 => v = undef
                | 11 => v = undef
                | 12 => v = undef
                | 13 => v = .bool false
                | _ => True) hm (by kernel_rfl) (by kernel_rfl) rfl ?_ ?_ ?_
            · intro i v w1 w2 hx h
              match i, h with
              | 0, h => exact h
              | 1, h => exact h
              | 2, h => exact h
              | 3, h => exact h
              | 4, h => exact h
              | 5, h => exact h
              | 6, h => exact h
              | 7, h => exact h
              | 8, h => exact h
              | 9, h => exact h
              | 10, h => exact h
              | 11, h => exact h
              | 12, h => exact h
              | 13, h => exact h
              | i + 14, h => exact h
            · intro i o ho b w1 hx hmiss hdep K hK
              match i, ho with
              | 0, ho =>
                obtain rfl := Option.some.inj ho
                have e5 : b.tmps[5]? = some (.int .i64 (q : Int)) := hmiss 5 rfl
                refine want_none rfl ?_
                exact op_move rfl (eval_of e5) (hK _ w1 (Ext.refl _) rfl)
              | 1, ho =>
                obtain rfl := Option.some.inj ho
                obtain ⟨v32, g32, e32⟩ := hdep 0 rfl
                have g32 : v32 = .int .i64 (q : Int) := g32
                subst g32
                have e32 := e32 32 rfl
                refine want_none rfl ?_
                exact op_run (by unfold execOp; simp [e32, Act.eval, go_sem, hz1]) (hK _ w1 (Ext.refl _) rfl)
              | 2, ho =>
                obtain rfl := Option.some.inj ho
                obtain ⟨v33, g33, e33⟩ := hdep 1 rfl
                have g33 : v33 = .bool false := g33
                subst g33
                have e33 := e33 33 rfl
                refine want_none rfl ?_
                exact op_move rfl (eval_of e33) (hK _ w1 (Ext.refl _) rfl)
              | 3, ho =>
                obtain rfl := Option.some.inj ho
                obtain ⟨vg, gg, eg⟩ := hdep 2 rfl
                have gg : vg = .bool false := gg
                subst gg
                have eg := eg 34 rfl
                exact want_no rfl rfl (.inl eg) (hK _ w1 (Ext.refl _) rfl)
              | 4, ho =>
                obtain rfl := Option.some.inj ho
                obtain ⟨vg, gg, eg⟩ := hdep 2 rfl
                have gg : vg = .bool false := gg
                subst gg
                have eg := eg 34 rfl
                exact want_no rfl rfl (.inl eg) (hK _ w1 (Ext.refl _) rfl)
              | 5, ho =>
                obtain rfl := Option.some.inj ho
                obtain ⟨vg, gg, eg⟩ := hdep 2 rfl
                have gg : vg = .bool false := gg
                subst gg
                have eg := eg 34 rfl
                exact want_no rfl rfl (.inl eg) (hK _ w1 (Ext.refl _) rfl)
              | 6, ho =>
                obtain rfl := Option.some.inj ho
                obtain ⟨vg, gg, eg⟩ := hdep 2 rfl
                have gg : vg = .bool false := gg
                subst gg
                have eg := eg 34 rfl
                exact want_no rfl rfl (.inl eg) (hK _ w1 (Ext.refl _) rfl)
              | 7, ho =>
                obtain rfl := Option.some.inj ho
                obtain ⟨vg, gg, eg⟩ := hdep 2 rfl
                have gg : vg = .bool false := gg
                subst gg
                have eg := eg 34 rfl
                exact want_no rfl rfl (.inl eg) (hK _ w1 (Ext.refl _) rfl)
              | 8, ho =>
                obtain rfl := Option.some.inj ho
                obtain ⟨vg, gg, eg⟩ := hdep 2 rfl
                have gg : vg = .bool false := gg
                subst gg
                have eg := eg 34 rfl
                exact want_no rfl rfl (.inl eg) (hK _ w1 (Ext.refl _) rfl)
              | 9, ho =>
                obtain rfl := Option.some.inj ho
                obtain ⟨vg, gg, eg⟩ := hdep 2 rfl
                have gg : vg = .bool false := gg
                subst gg
                have eg := eg 34 rfl
                exact want_no rfl rfl (.inl eg) (hK _ w1 (Ext.refl _) rfl)
              | 10, ho =>
                obtain rfl := Option.some.inj ho
                obtain ⟨vg, gg, eg⟩ := hdep 2 rfl
                have gg : vg = .bool false := gg
                subst gg
                have eg := eg 34 rfl
                exact want_no rfl rfl (.inl eg) (hK _ w1 (Ext.refl _) rfl)
              | 11, ho =>
                obtain rfl := Option.some.inj ho
                obtain ⟨vg, gg, eg⟩ := hdep 2 rfl
                have gg : vg = .bool false := gg
                subst gg
                have eg := eg 34 rfl
                exact want_no rfl rfl (.inl eg) (hK _ w1 (Ext.refl _) rfl)
              | 12, ho =>
                obtain rfl := Option.some.inj ho
                obtain ⟨vg, gg, eg⟩ := hdep 2 rfl
                have gg : vg = .bool false := gg
                subst gg
                have eg := eg 34 rfl
                exact want_no rfl rfl (.inl eg) (hK _ w1 (Ext.refl _) rfl)
              | 13, ho =>
                obtain rfl := Option.some.inj ho
                obtain ⟨v34, g34, e34⟩ := hdep 2 rfl
                have g34 : v34 = .bool false := g34
                subst g34
                have e34 := e34 34 rfl
                obtain ⟨v44, g44, e44⟩ := hdep 12 rfl
                have g44 : v44 = undef := g44
                subst g44
                have e44 := e44 44 rfl
                refine want_none rfl ?_
                exact op_run (by unfold execOp; simp [e34, e44, Act.eval, go_sem]) (hK _ w1 (Ext.refl _) rfl)
              | i + 14, ho => cases ho
            · intro V w9 hx hg
              have g0 : V 0 = .int .i64 (q : Int) := hg 0 (by decide)
              have g1 : V 1 = .bool false := hg 1 (by decide)
              have g2 : V 2 = .bool false := hg 2 (by decide)
              have g3 : V 3 = undef := hg 3 (by decide)
              have g4 : V 4 = undef := hg 4 (by decide)
              have g5 : V 5 = undef := hg 5 (by decide)
              have g6 : V 6 = undef := hg 6 (by decide)
              have g7 : V 7 = undef := hg 7 (by decide)
              have g8 : V 8 = undef := hg 8 (by decide)
              have g9 : V 9 = undef := hg 9 (by decide)
              have g10 : V 10 = undef := hg 10 (by decide)
              have g11 : V 11 = undef := hg 11 (by decide)
              have g12 : V 12 = undef := hg 12 (by decide)
              have g13 : V 13 = .bool false := hg 13 (by decide)
              simp only [List.length_cons, List.length_nil, fillAllN, dstOf, Act.put, List.getElem?_toArray, List.getElem?_cons_zero, List.getElem?_cons_succ, Option.bind_some, g0, g1, g2, g3, g4, g5, g6, g7, g8, g9, g10, g11, g12, g13, List.setIfInBounds_toArray, List.set_cons_zero, List.set_cons_succ]
              clear g0 g1 g2 g3 g4 g5 g6 g7 g8 g9 g10 g11 g12 g13 hg
              have HX8 := Lib.hid (HX6.out.trans hx)
              clear hx
              have HXW := Lib.hid (HX.out.trans HX8.out)
              have HSW := Lib.hid (HO.out.ext HX8.out)
              have HST := Lib.hid (show Sv w9 w9.heap.size 17 (A1) c1 (rowsE (o.take q)) by rw [rowsE_take]; exact HSW.out.take q)
              have HTL := Lib.hid (show (rowsE (o.take q)).length = q by rw [rowsE_length, List.length_take]; omega)
              go_upto_region 11 with (first
                | (with_reducible refine wpList_slice_to rfl 35 29 (.tmp 47) (.tmp 48) rfl i0 Tryz.underlying35 HI.out (A1) o.length c1 q rfl rfl HQC.out ?_)
                | (at_builtin; refine wpList_append_sv _ rfl (.tmp 46) (.tmp 49) 35 rfl w9.heap.size 29 i0 (.agg #[.int .i64 0, .int .i64 0, .int .i64 0, .int .i64 0, .int .i64 0, .int .i64 0, .int .i64 0, .int .i64 0, .int .i64 0, .int .i64 0, .int .i64 0, .int .i64 0, .int .i64 0, .int .i64 0, .int .i64 0, .int .i64 0, .int .i64 0]) 17 136 Tryz.underlying35 HI.out HZ.out HZ1.out HZ2.out rfl (by decide) _ 0 [] rfl (World.ownsRow_nil _ _ _ _) w9.heap.size (A1) q c1 (rowsE (o.take q)) rfl HST.out HTL.out (by unfold maxLen; omega) (by omega) (Nat.le_refl _) ?_; intro v2 W2 g1 g2 _))
              have hx3 : Ext w9 W2 := (Ext.refl _).grown g2 (own_low (World.ownsRow_nil w9 w9.heap.size 29 17))
              have HO3 := Lib.hid (show W2.ownsRow w9.heap.size 29 17 v2 q (rowsE (o.take q)).flatten by simpa using g1)
              have HRA2 := Lib.hid (HRAX.out W2 (HX8.out.trans hx3))
              have hx6 : Ext W2 (W2.alloc (.cells x.cells.toArray 29)) := (Ext.refl _).alloc _
              have HSN := Lib.hid (show Sv (W2.alloc (.cells x.cells.toArray 29)) (W2.alloc (.cells x.cells.toArray 29)).heap.size 17 (some ⟨W2.heap.size, 0, none⟩) 1 (rowsE [x]) from
                ⟨by simp [rowsE], by decide, rowsE_rwk _, fun _ => ⟨W2.heap.size, 0, rfl, by simp, fun j u hu => by
                  rw [Nat.zero_add, cell_of_row _ _ _ _ _ _ (heap_alloc_new W2 _)]
                  simpa [rowsE] using hu⟩⟩)
              have HO4 := Lib.hid (own_ext HO3.out hx6)
              have HX4 := Lib.hid (hx3.trans hx6)
              clear g1 g2 hx3 hx6
              go_upto_region 12 with (first
                | (with_reducible refine wpList_load_mid rfl 29 (.tmp 54) rfl bl (ol + k * 17) rfl x.cells _ HRA2.out Tryz.underlying29 rfl (by kernel_rfl) ?_)
                | (refine wpList_buildRow rfl 35 29 55 rfl 17 (by decide) (by decide) x.cells rfl rfl Tryz.underlying35 (by kernel_rfl) (by kernel_rfl) ?_)
                | (at_builtin; refine wpList_append_sv _ rfl (.tmp 51) (.tmp 56) 35 rfl w9.heap.size 29 i0 (.agg #[.int .i64 0, .int .i64 0, .int .i64 0, .int .i64 0, .int .i64 0, .int .i64 0, .int .i64 0, .int .i64 0, .int .i64 0, .int .i64 0, .int .i64 0, .int .i64 0, .int .i64 0, .int .i64 0, .int .i64 0, .int .i64 0, .int .i64 0]) 17 136 Tryz.underlying35 HI.out HZ.out HZ1.out HZ2.out rfl (by decide) _ q _ rfl HO4.out _ _ 1 1 (rowsE [x]) rfl HSN.out rfl (by unfold maxLen; omega) (by omega) HX4.out.size ?_; intro v6 W6 g1 g2 _))
              have HX6 := Lib.hid (HX4.out.own HO4.out g2 (Nat.le_refl _))
              have HO6 := Lib.hid g1
              clear g1 g2
              have HSD := Lib.hid (show Sv W6 W6.heap.size 17 (if c1 = q then (A1) else Option.map (fun z : Addr => z.add (q * 17)) (A1)) (c1 - q) (rowsE (o.drop q)) by rw [show rowsE (o.drop q) = (rowsE o).drop q by simp [rowsE]]; exact (HSW.out.ext HX6.out).drop (by rw [rowsE_length]; exact HQO.out))
              have HDL := Lib.hid (show (rowsE (o.drop q)).length = o.length - q by rw [rowsE_length, List.length_drop])
              go_wp2_with (first
                | (with_reducible refine wpList_slice_from rfl 35 29 (.tmp 59) (.tmp 60) rfl i0 17 Tryz.underlying35 HI.out HZ1.out (A1) o.length c1 q rfl rfl HQO.out ?_)
                | (at_builtin; refine wpList_append_sv _ rfl (.tmp 58) (.tmp 61) 35 rfl w9.heap.size 29 i0 (.agg #[.int .i64 0, .int .i64 0, .int .i64 0, .int .i64 0, .int .i64 0, .int .i64 0, .int .i64 0, .int .i64 0, .int .i64 0, .int .i64 0, .int .i64 0, .int .i64 0, .int .i64 0, .int .i64 0, .int .i64 0, .int .i64 0, .int .i64 0]) 17 136 Tryz.underlying35 HI.out HZ.out HZ1.out HZ2.out rfl (by decide) _ (q + 1) _ rfl HO6.out W6.heap.size (if c1 = q then (A1) else Option.map (fun z : Addr => z.add (q * 17)) (A1)) (o.length - q) (c1 - q) (rowsE (o.drop q)) rfl HSD.out HDL.out (by unfold maxLen; omega) (by omega) HX6.out.size ?_; intro v7 W7 g1 g2 _))
              have HX7 := Lib.hid (HX6.out.own HO6.out g2 (Nat.le_refl _))
              have hol : (o.take q ++ (x :: o.drop q)).length = q + 1 + (o.length - q) := by rw [List.length_append, List.length_take, List.length_cons, List.length_drop]; omega
              have hor : (rowsE (o.take q ++ (x :: o.drop q))).flatten = (rowsE (o.take q)).flatten ++ (rowsE [x]).flatten ++ (rowsE (o.drop q)).flatten := by simp [rowsE]
              have HO7 := Lib.hid (show W7.ownsRow w9.heap.size 29 17 v7 (o.take q ++ (x :: o.drop q)).length (rowsE (o.take q ++ (x :: o.drop q))).flatten by rw [hol, hor]; exact g1)
              clear hor g1 g2
              generalize o.take q ++ (x :: o.drop q) = o2 at HO7 HIO2 hol
              obtain ⟨A7, c7, rfl, _⟩ := own_form HO7.out
              go_roundw
              case rel => exact ⟨k + 1, o2, A7, c7, by go_num, by omega, rfl, by omega, Sv.of_own HO7.out (rowsE_rwk o2) (rowsE_length o2), HIO2.out, HXW.out.trans HX7.out⟩
              case measure => simp [intOf]; omega
        · obtain ⟨p, hpq⟩ : ∃ p, q = p + 1 := ⟨q - 1, by omega⟩
          have hqp : IntKind.i64.wrap ((q : Int) - 1) = (p : Int) := by rw [IntKind.wrap_i64]; omega
          have hpl : p < o.length := by omega
          have hp0 : 0 ≤ (p : Int) := by omega
          have hp1 : ¬ ((o.length : Int) ≤ (p : Int)) := by omega
          have hq0 : 0 < q := hqp0
          have hq1 : (0 : Int) < (q : Int) := by omega
          obtain ⟨y, hyp⟩ : ∃ y, o[p]? = some y := ⟨_, List.getElem?_eq_getElem hpl⟩
          obtain ⟨bo, oo, rfl, hbo, hro⟩ := ed_row HO.out hyp
          have HYP := Lib.hid hyp
          have HRX := Lib.hid (fun w2 (h : Ext wr w2) => HRAX.out w2 (HXQ.out.trans h))
          have HRY := Lib.hid (fun w2 (h : Ext wr w2) => rangeAt_ext hro hbo (HXQ.out.trans h))
          have HC := Lib.hid (fun w => refCompare_any x y w)
          have hlt9 := @cmpV_lt (numsE x) (numsE y)
          generalize cmpV (numsE x) (numsE y) = cv at HC hlt9
          have HPQ := Lib.hid hpq
          clear hyp hro hbo hqp0 hpq
          cases hbe : befE x y
          · have hcm : ¬ cv < 0 := fun h => by have := hlt9.1 h; unfold befE at hbe; rw [hbe] at this; cases this
            have HSE := Lib.hid (AtE.seen HYP.out hbe)
            clear hlt9 hbe
            go_upto_region 6 with fail
            refine wp_region_rel (fun i v w' => match i with
                | 0 => v = .int .i64 (q : Int)
                | 1 => v = .bool true
                | 2 => v = .bool true
                | 3 => v = .slice (some ⟨bl, ol, none⟩) l.length c
                | 4 => v = .int .i64 (k : Int)
                | 5 => v = .pointer (some ⟨bl, ol + k * 17, none⟩)
                | 6 => v = .agg x.cells.toArray
                | 7 => v = .slice (some ⟨bo, oo, none⟩) o.length c1
                | 8 => v = .int .i64 (q : Int)
                | 9 => v = .int .i64 (p : Int)
                | 10 => v = .pointer (some ⟨bo, oo + p * 17, none⟩)
                | 11 => v = .agg y.cells.toArray
                | 12 => v = .int .i64 cv
                | 13 => v = .bool false
                | 14 => v = .bool false
                | _ => True) hm (by kernel_rfl) (by kernel_rfl) rfl ?_ ?_ ?_
            · intro i v w1 w2 hx h
              match i, h with
              | 0, h => exact h
              | 1, h => exact h
              | 2, h => exact h
              | 3, h => exact h
              | 4, h => exact h
              | 5, h => exact h
              | 6, h => exact h
              | 7, h => exact h
              | 8, h => exact h
              | 9, h => exact h
              | 10, h => exact h
              | 11, h => exact h
              | 12, h => exact h
              | 13, h => exact h
              | 14, h => exact h
              | i + 15, h => exact h
            · intro i o ho b w1 hx hmiss hdep K hK
              match i, ho with
              | 0, ho =>
                obtain rfl := Option.some.inj ho
                have e5 : b.tmps[5]? = some (.int .i64 (q : Int)) := hmiss 5 rfl
                refine want_none rfl ?_
                exact op_move rfl (eval_of e5) (hK _ w1 (Ext.refl _) rfl)
              | 1, ho =>
                obtain rfl := Option.some.inj ho
                obtain ⟨v15, g15, e15⟩ := hdep 0 rfl
                have g15 : v15 = .int .i64 (q : Int) := g15
                subst g15
                have e15 := e15 15 rfl
                refine want_none rfl ?_
                exact op_run (by unfold execOp; simp [e15, Act.eval, go_sem, hq0]) (hK _ w1 (Ext.refl _) rfl)
              | 2, ho =>
                obtain rfl := Option.some.inj ho
                obtain ⟨v16, g16, e16⟩ := hdep 1 rfl
                have g16 : v16 = .bool true := g16
                subst g16
                have e16 := e16 16 rfl
                refine want_none rfl ?_
                exact op_move rfl (eval_of e16) (hK _ w1 (Ext.refl _) rfl)
              | 3, ho =>
                obtain rfl := Option.some.inj ho
                have e0 : b.tmps[0]? = some (.slice (some ⟨bl, ol, none⟩) l.length c) := hmiss 0 rfl
                obtain ⟨vg, gg, eg⟩ := hdep 2 rfl
                have gg : vg = .bool true := gg
                subst gg
                have eg := eg 17 rfl
                refine want_yes rfl rfl eg ?_
                exact op_move rfl (eval_of e0) (hK _ w1 (Ext.refl _) rfl)
              | 4, ho =>
                obtain rfl := Option.some.inj ho
                have e4 : b.tmps[4]? = some (.int .i64 (k : Int)) := hmiss 4 rfl
                obtain ⟨vg, gg, eg⟩ := hdep 2 rfl
                have gg : vg = .bool true := gg
                subst gg
                have eg := eg 17 rfl
                refine want_yes rfl rfl eg ?_
                exact op_move rfl (eval_of e4) (hK _ w1 (Ext.refl _) rfl)
              | 5, ho =>
                obtain rfl := Option.some.inj ho
                obtain ⟨v18, g18, e18⟩ := hdep 3 rfl
                have g18 : v18 = .slice (some ⟨bl, ol, none⟩) l.length c := g18
                subst g18
                have e18 := e18 18 rfl
                obtain ⟨v19, g19, e19⟩ := hdep 4 rfl
                have g19 : v19 = .int .i64 (k : Int) := g19
                subst g19
                have e19 := e19 19 rfl
                obtain ⟨vg, gg, eg⟩ := hdep 2 rfl
                have gg : vg = .bool true := gg
                subst gg
                have eg := eg 17 rfl
                refine want_yes rfl rfl eg ?_
                exact op_run (by unfold execOp; simp [e18, e19, Act.eval, go_sem, hk0, hk1]) (hK _ w1 (Ext.refl _) rfl)
              | 6, ho =>
                obtain rfl := Option.some.inj ho
                obtain ⟨v20, g20, e20⟩ := hdep 5 rfl
                have g20 : v20 = .pointer (some ⟨bl, ol + k * 17, none⟩) := g20
                subst g20
                have e20 := e20 20 rfl
                obtain ⟨vg, gg, eg⟩ := hdep 2 rfl
                have gg : vg = .bool true := gg
                subst gg
                have eg := eg 17 rfl
                refine want_yes rfl rfl eg ?_
                exact wp_load_mid 29 (.tmp 20) rfl (bl) (ol + k * 17) (eval_of e20) (x.cells) _ (HRX.out _ hx) Tryz.underlying29 rfl (by kernel_rfl) (hK _ w1 (Ext.refl _) rfl)
              | 7, ho =>
                obtain rfl := Option.some.inj ho
                have e3 : b.tmps[3]? = some (.slice (some ⟨bo, oo, none⟩) o.length c1) := hmiss 3 rfl
                obtain ⟨vg, gg, eg⟩ := hdep 2 rfl
                have gg : vg = .bool true := gg
                subst gg
                have eg := eg 17 rfl
                refine want_yes rfl rfl eg ?_
                exact op_move rfl (eval_of e3) (hK _ w1 (Ext.refl _) rfl)
              | 8, ho =>
                obtain rfl := Option.some.inj ho
                have e5 : b.tmps[5]? = some (.int .i64 (q : Int)) := hmiss 5 rfl
                obtain ⟨vg, gg, eg⟩ := hdep 2 rfl
                have gg : vg = .bool true := gg
                subst gg
                have eg := eg 17 rfl
                refine want_yes rfl rfl eg ?_
                exact op_move rfl (eval_of e5) (hK _ w1 (Ext.refl _) rfl)
              | 9, ho =>
                obtain rfl := Option.some.inj ho
                obtain ⟨v23, g23, e23⟩ := hdep 8 rfl
                have g23 : v23 = .int .i64 (q : Int) := g23
                subst g23
                have e23 := e23 23 rfl
                obtain ⟨vg, gg, eg⟩ := hdep 2 rfl
                have gg : vg = .bool true := gg
                subst gg
                have eg := eg 17 rfl
                refine want_yes rfl rfl eg ?_
                exact op_run (by unfold execOp; simp [e23, Act.eval, go_sem, hqp]) (hK _ w1 (Ext.refl _) rfl)
              | 10, ho =>
                obtain rfl := Option.some.inj ho
                obtain ⟨v22, g22, e22⟩ := hdep 7 rfl
                have g22 : v22 = .slice (some ⟨bo, oo, none⟩) o.length c1 := g22
                subst g22
                have e22 := e22 22 rfl
                obtain ⟨v24, g24, e24⟩ := hdep 9 rfl
                have g24 : v24 = .int .i64 (p : Int) := g24
                subst g24
                have e24 := e24 24 rfl
                obtain ⟨vg, gg, eg⟩ := hdep 2 rfl
                have gg : vg = .bool true := gg
                subst gg
                have eg := eg 17 rfl
                refine want_yes rfl rfl eg ?_
                exact op_run (by unfold execOp; simp [e22, e24, Act.eval, go_sem, hpl, hp0]) (hK _ w1 (Ext.refl _) rfl)
              | 11, ho =>
                obtain rfl := Option.some.inj ho
                obtain ⟨v25, g25, e25⟩ := hdep 10 rfl
                have g25 : v25 = .pointer (some ⟨bo, oo + p * 17, none⟩) := g25
                subst g25
                have e25 := e25 25 rfl
                obtain ⟨vg, gg, eg⟩ := hdep 2 rfl
                have gg : vg = .bool true := gg
                subst gg
                have eg := eg 17 rfl
                refine want_yes rfl rfl eg ?_
                exact wp_load_mid 29 (.tmp 25) rfl (bo) (oo + p * 17) (eval_of e25) (y.cells) _ (HRY.out _ hx) Tryz.underlying29 rfl (by kernel_rfl) (hK _ w1 (Ext.refl _) rfl)
              | 12, ho =>
                obtain rfl := Option.some.inj ho
                obtain ⟨v21, g21, e21⟩ := hdep 6 rfl
                have g21 : v21 = .agg x.cells.toArray := g21
                subst g21
                have e21 := e21 21 rfl
                obtain ⟨v26, g26, e26⟩ := hdep 11 rfl
                have g26 : v26 = .agg y.cells.toArray := g26
                subst g26
                have e26 := e26 26 rfl
                obtain ⟨vg, gg, eg⟩ := hdep 2 rfl
                have gg : vg = .bool true := gg
                subst gg
                have eg := eg 17 rfl
                refine want_yes rfl rfl eg ?_
                have hc : Calls Tryz.prog 20 #[.agg x.cells.toArray, .agg y.cells.toArray] w1 fun e w' => ∃ v, e = .returned v ∧ Ext w1 w' ∧ (v = .int .i64 cv) := (HC.out w1).mono fun e w2 ⟨h1, h2⟩ => ⟨_, h1, h2, rfl⟩
                exact op_call (G := fun v w' => v = .int .i64 cv) rfl (by simp [eval_of e21, eval_of e26]) (fun _ _ => by kernel_rfl) hc (fun v w' h1 h2 => hK v w' h1 h2)
              | 13, ho =>
                obtain rfl := Option.some.inj ho
                obtain ⟨v27, g27, e27⟩ := hdep 12 rfl
                obtain rfl := g27
                have e27 := e27 27 rfl
                obtain ⟨vg, gg, eg⟩ := hdep 2 rfl
                have gg : vg = .bool true := gg
                subst gg
                have eg := eg 17 rfl
                refine want_yes rfl rfl eg ?_
                exact op_run (by unfold execOp; simp [e27, Act.eval, go_sem, hcm]) (hK _ w1 (Ext.refl _) rfl)
              | 14, ho =>
                obtain rfl := Option.some.inj ho
                obtain ⟨v17, g17, e17⟩ := hdep 2 rfl
                have g17 : v17 = .bool true := g17
                subst g17
                have e17 := e17 17 rfl
                obtain ⟨v28, g28, e28⟩ := hdep 13 rfl
                have g28 : v28 = .bool false := g28
                subst g28
                have e28 := e28 28 rfl
                refine want_none rfl ?_
                exact op_run (by unfold execOp; simp [e17, e28, Act.eval, go_sem]) (hK _ w1 (Ext.refl _) rfl)
              | i + 15, ho => cases ho
            · intro V w9 hx hg
              have g0 : V 0 = .int .i64 (q : Int) := hg 0 (by decide)
              have g1 : V 1 = .bool true := hg 1 (by decide)
              have g2 : V 2 = .bool true := hg 2 (by decide)
              have g3 : V 3 = .slice (some ⟨bl, ol, none⟩) l.length c := hg 3 (by decide)
              have g4 : V 4 = .int .i64 (k : Int) := hg 4 (by decide)
              have g5 : V 5 = .pointer (some ⟨bl, ol + k * 17, none⟩) := hg 5 (by decide)
              have g6 : V 6 = .agg x.cells.toArray := hg 6 (by decide)
              have g7 : V 7 = .slice (some ⟨bo, oo, none⟩) o.length c1 := hg 7 (by decide)
              have g8 : V 8 = .int .i64 (q : Int) := hg 8 (by decide)
              have g9 : V 9 = .int .i64 (p : Int) := hg 9 (by decide)
              have g10 : V 10 = .pointer (some ⟨bo, oo + p * 17, none⟩) := hg 10 (by decide)
              have g11 : V 11 = .agg y.cells.toArray := hg 11 (by decide)
              have g13 : V 13 = .bool false := hg 13 (by decide)
              have g14 : V 14 = .bool false := hg 14 (by decide)
              have g12 := hg 12 (by decide)
              simp only [List.length_cons, List.length_nil, fillAllN, dstOf, Act.put, List.getElem?_toArray, List.getElem?_cons_zero, List.getElem?_cons_succ, Option.bind_some, g0, g1, g2, g3, g4, g5, g6, g7, g8, g9, g10, g11, g13, g14, List.setIfInBounds_toArray, List.set_cons_zero, List.set_cons_succ]
              clear g0 g1 g2 g3 g4 g5 g6 g7 g8 g9 g10 g11 g13 g14 hg
              have HX6 := Lib.hid (HXQ.out.trans hx)
              have HRX2 := Lib.hid (fun w2 (h : Ext w9 w2) => HRX.out w2 (hx.trans h))
              have HRY2 := Lib.hid (fun w2 (h : Ext w9 w2) => HRY.out w2 (hx.trans h))
              have hn := eqEd_run y x
              clear hx hcm
              obtain ⟨W9, hW9⟩ : ∃ W, W = w9 := ⟨_, rfl⟩
              rw [← hW9] at HX6 HRX2 HRY2 ⊢
              clear hW9
              by_cases hyx : y = x
              · rw [decide_eq_true hyx] at hn
                have hcm := True.intro
                have HIO2 := Lib.hid (HIO.out.seen HXK.out (hyx ▸ List.mem_of_getElem? HYP.out))
                clear hyx
                go_upto_region 8 with fail
                refine wp_region_rel (fun i v w' => match i with
                    | 0 => v = .int .i64 (q : Int)
                    | 1 => v = .bool true
                    | 2 => v = .bool true
                    | 3 => v = .slice (some ⟨bo, oo, none⟩) o.length c1
                    | 4 => v = .int .i64 (q : Int)
                    | 5 => v = .int .i64 (p : Int)
                    | 6 => v = .pointer (some ⟨bo, oo + p * 17, none⟩)
                    | 7 => v = .agg y.cells.toArray
                    | 8 => v = .slice (some ⟨bl, ol, none⟩) l.length c
                    | 9 => v = .int .i64 (k : Int)
                    | 10 => v = .pointer (some ⟨bl, ol + k * 17, none⟩)
                    | 11 => v = .agg x.cells.toArray
                    | 12 => v = .bool true
                    | 13 => v = .bool true
                    | _ => True) hm (by kernel_rfl) (by kernel_rfl) rfl ?_ ?_ ?_
                · intro i v w1 w2 hx h
                  match i, h with
                  | 0, h => exact h
                  | 1, h => exact h
                  | 2, h => exact h
                  | 3, h => exact h
                  | 4, h => exact h
                  | 5, h => exact h
                  | 6, h => exact h
                  | 7, h => exact h
                  | 8, h => exact h
                  | 9, h => exact h
                  | 10, h => exact h
                  | 11, h => exact h
                  | 12, h => exact h
                  | 13, h => exact h
                  | i + 14, h => exact h
                · intro i o ho b w1 hx hmiss hdep K hK
                  match i, ho with
                  | 0, ho =>
                    obtain rfl := Option.some.inj ho
                    have e5 : b.tmps[5]? = some (.int .i64 (q : Int)) := hmiss 5 rfl
                    refine want_none rfl ?_
                    exact op_move rfl (eval_of e5) (hK _ w1 (Ext.refl _) rfl)
                  | 1, ho =>
                    obtain rfl := Option.some.inj ho
                    obtain ⟨v32, g32, e32⟩ := hdep 0 rfl
                    have g32 : v32 = .int .i64 (q : Int) := g32
                    subst g32
                    have e32 := e32 32 rfl
                    refine want_none rfl ?_
                    exact op_run (by unfold execOp; simp [e32, Act.eval, go_sem, hq0]) (hK _ w1 (Ext.refl _) rfl)
                  | 2, ho =>
                    obtain rfl := Option.some.inj ho
                    obtain ⟨v33, g33, e33⟩ := hdep 1 rfl
                    have g33 : v33 = .bool true := g33
                    subst g33
                    have e33 := e33 33 rfl
                    refine want_none rfl ?_
                    exact op_move rfl (eval_of e33) (hK _ w1 (Ext.refl _) rfl)
                  | 3, ho =>
                    obtain rfl := Option.some.inj ho
                    have e3 : b.tmps[3]? = some (.slice (some ⟨bo, oo, none⟩) o.length c1) := hmiss 3 rfl
                    obtain ⟨vg, gg, eg⟩ := hdep 2 rfl
                    have gg : vg = .bool true := gg
                    subst gg
                    have eg := eg 34 rfl
                    refine want_yes rfl rfl eg ?_
                    exact op_move rfl (eval_of e3) (hK _ w1 (Ext.refl _) rfl)
                  | 4, ho =>
                    obtain rfl := Option.some.inj ho
                    have e5 : b.tmps[5]? = some (.int .i64 (q : Int)) := hmiss 5 rfl
                    obtain ⟨vg, gg, eg⟩ := hdep 2 rfl
                    have gg : vg = .bool true := gg
                    subst gg
                    have eg := eg 34 rfl
                    refine want_yes rfl rfl eg ?_
                    exact op_move rfl (eval_of e5) (hK _ w1 (Ext.refl _) rfl)
                  | 5, ho =>
                    obtain rfl := Option.some.inj ho
                    obtain ⟨v36, g36, e36⟩ := hdep 4 rfl
                    have g36 : v36 = .int .i64 (q : Int) := g36
                    subst g36
                    have e36 := e36 36 rfl
                    obtain ⟨vg, gg, eg⟩ := hdep 2 rfl
                    have gg : vg = .bool true := gg
                    subst gg
                    have eg := eg 34 rfl
                    refine want_yes rfl rfl eg ?_
                    exact op_run (by unfold execOp; simp [e36, Act.eval, go_sem, hqp]) (hK _ w1 (Ext.refl _) rfl)
                  | 6, ho =>
                    obtain rfl := Option.some.inj ho
                    obtain ⟨v35, g35, e35⟩ := hdep 3 rfl
                    have g35 : v35 = .slice (some ⟨bo, oo, none⟩) o.length c1 := g35
                    subst g35
                    have e35 := e35 35 rfl
                    obtain ⟨v37, g37, e37⟩ := hdep 5 rfl
                    have g37 : v37 = .int .i64 (p : Int) := g37
                    subst g37
                    have e37 := e37 37 rfl
                    obtain ⟨vg, gg, eg⟩ := hdep 2 rfl
                    have gg : vg = .bool true := gg
                    subst gg
                    have eg := eg 34 rfl
                    refine want_yes rfl rfl eg ?_
                    exact op_run (by unfold execOp; simp [e35, e37, Act.eval, go_sem, hpl, hp0]) (hK _ w1 (Ext.refl _) rfl)
                  | 7, ho =>
                    obtain rfl := Option.some.inj ho
                    obtain ⟨v38, g38, e38⟩ := hdep 6 rfl
                    have g38 : v38 = .pointer (some ⟨bo, oo + p * 17, none⟩) := g38
                    subst g38
                    have e38 := e38 38 rfl
                    obtain ⟨vg, gg, eg⟩ := hdep 2 rfl
                    have gg : vg = .bool true := gg
                    subst gg
                    have eg := eg 34 rfl
                    refine want_yes rfl rfl eg ?_
                    exact wp_load_mid 29 (.tmp 38) rfl (bo) (oo + p * 17) (eval_of e38) (y.cells) _ (HRY2.out _ hx) Tryz.underlying29 rfl (by kernel_rfl) (hK _ w1 (Ext.refl _) rfl)
                  | 8, ho =>
                    obtain rfl := Option.some.inj ho
                    have e0 : b.tmps[0]? = some (.slice (some ⟨bl, ol, none⟩) l.length c) := hmiss 0 rfl
                    obtain ⟨vg, gg, eg⟩ := hdep 2 rfl
                    have gg : vg = .bool true := gg
                    subst gg
                    have eg := eg 34 rfl
                    refine want_yes rfl rfl eg ?_
                    exact op_move rfl (eval_of e0) (hK _ w1 (Ext.refl _) rfl)
                  | 9, ho =>
                    obtain rfl := Option.some.inj ho
                    have e4 : b.tmps[4]? = some (.int .i64 (k : Int)) := hmiss 4 rfl
                    obtain ⟨vg, gg, eg⟩ := hdep 2 rfl
                    have gg : vg = .bool true := gg
                    subst gg
                    have eg := eg 34 rfl
                    refine want_yes rfl rfl eg ?_
                    exact op_move rfl (eval_of e4) (hK _ w1 (Ext.refl _) rfl)
                  | 10, ho =>
                    obtain rfl := Option.some.inj ho
                    obtain ⟨v40, g40, e40⟩ := hdep 8 rfl
                    have g40 : v40 = .slice (some ⟨bl, ol, none⟩) l.length c := g40
                    subst g40
                    have e40 := e40 40 rfl
                    obtain ⟨v41, g41, e41⟩ := hdep 9 rfl
                    have g41 : v41 = .int .i64 (k : Int) := g41
                    subst g41
                    have e41 := e41 41 rfl
                    obtain ⟨vg, gg, eg⟩ := hdep 2 rfl
                    have gg : vg = .bool true := gg
                    subst gg
                    have eg := eg 34 rfl
                    refine want_yes rfl rfl eg ?_
                    exact op_run (by unfold execOp; simp [e40, e41, Act.eval, go_sem, hk0, hk1]) (hK _ w1 (Ext.refl _) rfl)
                  | 11, ho =>
                    obtain rfl := Option.some.inj ho
                    obtain ⟨v42, g42, e42⟩ := hdep 10 rfl
                    have g42 : v42 = .pointer (some ⟨bl, ol + k * 17, none⟩) := g42
                    subst g42
                    have e42 := e42 42 rfl
                    obtain ⟨vg, gg, eg⟩ := hdep 2 rfl
                    have gg : vg = .bool true := gg
                    subst gg
                    have eg := eg 34 rfl
                    refine want_yes rfl rfl eg ?_
                    exact wp_load_mid 29 (.tmp 42) rfl (bl) (ol + k * 17) (eval_of e42) (x.cells) _ (HRX2.out _ hx) Tryz.underlying29 rfl (by kernel_rfl) (hK _ w1 (Ext.refl _) rfl)
                  | 12, ho =>
                    obtain rfl := Option.some.inj ho
                    obtain ⟨v39, g39, e39⟩ := hdep 7 rfl
                    have g39 : v39 = .agg y.cells.toArray := g39
                    subst g39
                    have e39 := e39 39 rfl
                    obtain ⟨v43, g43, e43⟩ := hdep 11 rfl
                    have g43 : v43 = .agg x.cells.toArray := g43
                    subst g43
                    have e43 := e43 43 rfl
                    obtain ⟨vg, gg, eg⟩ := hdep 2 rfl
                    have gg : vg = .bool true := gg
                    subst gg
                    have eg := eg 34 rfl
                    refine want_yes rfl rfl eg ?_
                    exact op_run (by unfold execOp; simp [e39, e43, Act.eval, go_sem, hn]) (hK _ w1 (Ext.refl _) rfl)
                  | 13, ho =>
                    obtain rfl := Option.some.inj ho
                    obtain ⟨v34, g34, e34⟩ := hdep 2 rfl
                    have g34 : v34 = .bool true := g34
                    subst g34
                    have e34 := e34 34 rfl
                    obtain ⟨v44, g44, e44⟩ := hdep 12 rfl
                    have g44 : v44 = .bool true := g44
                    subst g44
                    have e44 := e44 44 rfl
                    refine want_none rfl ?_
                    exact op_run (by unfold execOp; simp [e34, e44, Act.eval, go_sem]) (hK _ w1 (Ext.refl _) rfl)
                  | i + 14, ho => cases ho
                · intro V w9 hx hg
                  have g0 : V 0 = .int .i64 (q : Int) := hg 0 (by decide)
                  have g1 : V 1 = .bool true := hg 1 (by decide)
                  have g2 : V 2 = .bool true := hg 2 (by decide)
                  have g3 : V 3 = .slice (some ⟨bo, oo, none⟩) o.length c1 := hg 3 (by decide)
                  have g4 : V 4 = .int .i64 (q : Int) := hg 4 (by decide)
                  have g5 : V 5 = .int .i64 (p : Int) := hg 5 (by decide)
                  have g6 : V 6 = .pointer (some ⟨bo, oo + p * 17, none⟩) := hg 6 (by decide)
                  have g7 : V 7 = .agg y.cells.toArray := hg 7 (by decide)
                  have g8 : V 8 = .slice (some ⟨bl, ol, none⟩) l.length c := hg 8 (by decide)
                  have g9 : V 9 = .int .i64 (k : Int) := hg 9 (by decide)
                  have g10 : V 10 = .pointer (some ⟨bl, ol + k * 17, none⟩) := hg 10 (by decide)
                  have g11 : V 11 = .agg x.cells.toArray := hg 11 (by decide)
                  have g12 : V 12 = .bool true := hg 12 (by decide)
                  have g13 : V 13 = .bool true := hg 13 (by decide)
                  simp only [List.length_cons, List.length_nil, fillAllN, dstOf, Act.put, List.getElem?_toArray, List.getElem?_cons_zero, List.getElem?_cons_succ, Option.bind_some, g0, g1, g2, g3, g4, g5, g6, g7, g8, g9, g10, g11, g12, g13, List.setIfInBounds_toArray, List.set_cons_zero, List.set_cons_succ]
                  clear g0 g1 g2 g3 g4 g5 g6 g7 g8 g9 g10 g11 g12 g13 hg
                  have HX8 := Lib.hid (HX6.out.trans hx)
                  clear hx hn
                  go_wp2_with fail
                  go_roundw
                  case rel => exact ⟨k + 1, o, some ⟨bo, oo, none⟩, c1, by go_num, by omega, rfl, by omega, HO.out.ext HX8.out, HIO2.out, HX.out.trans HX8.out⟩
                  case measure => simp [intOf]; omega
              · rw [decide_eq_false hyx] at hn
                have hcm := True.intro
                have HIO2 := Lib.hid (HIO.out.put HXK.out HAT.out (fun z _ hz => by
                  rw [HPQ.out, Nat.add_sub_cancel, HYP.out] at hz
                  injection hz with hz
                  subst hz
                  exact HSE.out.resolve_left hyx))
                clear hyx
                go_upto_region 8 with fail
                refine wp_region_rel (fun i v w' => match i with
                    | 0 => v = .int .i64 (q : Int)
                    | 1 => v = .bool true
                    | 2 => v = .bool true
                    | 3 => v = .slice (some ⟨bo, oo, none⟩) o.length c1
                    | 4 => v = .int .i64 (q : Int)
                    | 5 => v = .int .i64 (p : Int)
                    | 6 => v = .pointer (some ⟨bo, oo + p * 17, none⟩)
                    | 7 => v = .agg y.cells.toArray
                    | 8 => v = .slice (some ⟨bl, ol, none⟩) l.length c
                    | 9 => v = .int .i64 (k : Int)
                    | 10 => v = .pointer (some ⟨bl, ol + k * 17, none⟩)
                    | 11 => v = .agg x.cells.toArray
                    | 12 => v = .bool false
                    | 13 => v = .bool false
                    | _ => True) hm (by kernel_rfl) (by kernel_rfl) rfl ?_ ?_ ?_
                · intro i v w1 w2 hx h
                  match i, h with
                  | 0, h => exact h
                  | 1, h => exact h
                  | 2, h => exact h
                  | 3, h => exact h
                  | 4, h => exact h
                  | 5, h => exact h
                  | 6, h => exact h
                  | 7, h => exact h
                  | 8, h => exact h
                  | 9, h => exact h
                  | 10, h => exact h
                  | 11, h => exact h
                  | 12, h => exact h
                  | 13, h => exact h
                  | i + 14, h => exact h
                · intro i o ho b w1 hx hmiss hdep K hK
                  match i, ho with
                  | 0, ho =>
                    obtain rfl := Option.some.inj ho
                    have e5 : b.tmps[5]? = some (.int .i64 (q : Int)) := hmiss 5 rfl
                    refine want_none rfl ?_
                    exact op_move rfl (eval_of e5) (hK _ w1 (Ext.refl _) rfl)
                  | 1, ho =>
                    obtain rfl := Option.some.inj ho
                    obtain ⟨v32, g32, e32⟩ := hdep 0 rfl
                    have g32 : v32 = .int .i64 (q : Int) := g32
                    subst g32
                    have e32 := e32 32 rfl
                    refine want_none rfl ?_
                    exact op_run (by unfold execOp; simp [e32, Act.eval, go_sem, hq0]) (hK _ w1 (Ext.refl _) rfl)
                  | 2, ho =>
                    obtain rfl := Option.some.inj ho
                    obtain ⟨v33, g33, e33⟩ := hdep 1 rfl
                    have g33 : v33 = .bool true := g33
                    subst g33
                    have e33 := e33 33 rfl
                    refine want_none rfl ?_
                    exact op_move rfl (eval_of e33) (hK _ w1 (Ext.refl _) rfl)
                  | 3, ho =>
                    obtain rfl := Option.some.inj ho
                    have e3 : b.tmps[3]? = some (.slice (some ⟨bo, oo, none⟩) o.length c1) := hmiss 3 rfl
                    obtain ⟨vg, gg, eg⟩ := hdep 2 rfl
                    have gg : vg = .bool true := gg
                    subst gg
                    have eg := eg 34 rfl
                    refine want_yes rfl rfl eg ?_
                    exact op_move rfl (eval_of e3) (hK _ w1 (Ext.refl _) rfl)
                  | 4, ho =>
                    obtain rfl := Option.some.inj ho
                    have e5 : b.tmps[5]? = some (.int .i64 (q : Int)) := hmiss 5 rfl
                    obtain ⟨vg, gg, eg⟩ := hdep 2 rfl
                    have gg : vg = .bool true := gg
                    subst gg
                    have eg := eg 34 rfl
                    refine want_yes rfl rfl eg ?_
                    exact op_move rfl (eval_of e5) (hK _ w1 (Ext.refl _) rfl)
                  | 5, ho =>
                    obtain rfl := Option.some.inj ho
                    obtain ⟨v36, g36, e36⟩ := hdep 4 rfl
                    have g36 : v36 = .int .i64 (q : Int) := g36
                    subst g36
                    have e36 := e36 36 rfl
                    obtain ⟨vg, gg, eg⟩ := hdep 2 rfl
                    have gg : vg = .bool true := gg
                    subst gg
                    have eg := eg 34 rfl
                    refine want_yes rfl rfl eg ?_
                    exact op_run (by unfold execOp; simp [e36, Act.eval, go_sem, hqp]) (hK _ w1 (Ext.refl _) rfl)
                  | 6, ho =>
                    obtain rfl := Option.some.inj ho
                    obtain ⟨v35, g35, e35⟩ := hdep 3 rfl
                    have g35 : v35 = .slice (some ⟨bo, oo, none⟩) o.length c1 := g35
                    subst g35
                    have e35 := e35 35 rfl
                    obtain ⟨v37, g37, e37⟩ := hdep 5 rfl
                    have g37 : v37 = .int .i64 (p : Int) := g37
                    subst g37
                    have e37 := e37 37 rfl
                    obtain ⟨vg, gg, eg⟩ := hdep 2 rfl
                    have gg : vg = .bool true := gg
                    subst gg
                    have eg := eg 34 rfl
                    refine want_yes rfl rfl eg ?_
                    exact op_run (by unfold execOp; simp [e35, e37, Act.eval, go_sem, hpl, hp0]) (hK _ w1 (Ext.refl _) rfl)
                  | 7, ho =>
                    obtain rfl := Option.some.inj ho
                    obtain ⟨v38, g38, e38⟩ := hdep 6 rfl
                    have g38 : v38 = .pointer (some ⟨bo, oo + p * 17, none⟩) := g38
                    subst g38
                    have e38 := e38 38 rfl
                    obtain ⟨vg, gg, eg⟩ := hdep 2 rfl
                    have gg : vg = .bool true := gg
                    subst gg
                    have eg := eg 34 rfl
                    refine want_yes rfl rfl eg ?_
                    exact wp_load_mid 29 (.tmp 38) rfl (bo) (oo + p * 17) (eval_of e38) (y.cells) _ (HRY2.out _ hx) Tryz.underlying29 rfl (by kernel_rfl) (hK _ w1 (Ext.refl _) rfl)
                  | 8, ho =>
                    obtain rfl := Option.some.inj ho
                    have e0 : b.tmps[0]? = some (.slice (some ⟨bl, ol, none⟩) l.length c) := hmiss 0 rfl
                    obtain ⟨vg, gg, eg⟩ := hdep 2 rfl
                    have gg : vg = .bool true := gg
                    subst gg
                    have eg := eg 34 rfl
                    refine want_yes rfl rfl eg ?_
                    exact op_move rfl (eval_of e0) (hK _ w1 (Ext.refl _) rfl)
                  | 9, ho =>
                    obtain rfl := Option.some.inj ho
                    have e4 : b.tmps[4]? = some (.int .i64 (k : Int)) := hmiss 4 rfl
                    obtain ⟨vg, gg, eg⟩ := hdep 2 rfl
                    have gg : vg = .bool true := gg
                    subst gg
                    have eg := eg 34 rfl
                    refine want_yes rfl rfl eg ?_
                    exact op_move rfl (eval_of e4) (hK _ w1 (Ext.refl _) rfl)
                  | 10, ho =>
                    obtain rfl := Option.some.inj ho
                    obtain ⟨v40, g40, e40⟩ := hdep 8 rfl
                    have g40 : v40 = .slice (some ⟨bl, ol, none⟩) l.length c := g40
                    subst g40
                    have e40 := e40 40 rfl
                    obtain ⟨v41, g41, e41⟩ := hdep 9 rfl
                    have g41 : v41 = .int .i64 (k : Int) := g41
                    subst g41
                    have e41 := e41 41 rfl
                    obtain ⟨vg, gg, eg⟩ := hdep 2 rfl
                    have gg : vg = .bool true := gg
                    subst gg
                    have eg := eg 34 rfl
                    refine want_yes rfl rfl eg ?_
                    exact op_run (by unfold execOp; simp [e40, e41, Act.eval, go_sem, hk0, hk1]) (hK _ w1 (Ext.refl _) rfl)
                  | 11, ho =>
                    obtain rfl := Option.some.inj ho
                    obtain ⟨v42, g42, e42⟩ := hdep 10 rfl
                    have g42 : v42 = .pointer (some ⟨bl, ol + k * 17, none⟩) := g42
                    subst g42
                    have e42 := e42 42 rfl
                    obtain ⟨vg, gg, eg⟩ := hdep 2 rfl
                    have gg : vg = .bool true := gg
                    subst gg
                    have eg := eg 34 rfl
                    refine want_yes rfl rfl eg ?_
                    exact wp_load_mid 29 (.tmp 42) rfl (bl) (ol + k * 17) (eval_of e42) (x.cells) _ (HRX2.out _ hx) Tryz.underlying29 rfl (by kernel_rfl) (hK _ w1 (Ext.refl _) rfl)
                  | 12, ho =>
                    obtain rfl := Option.some.inj ho
                    obtain ⟨v39, g39, e39⟩ := hdep 7 rfl
                    have g39 : v39 = .agg y.cells.toArray := g39
                    subst g39
                    have e39 := e39 39 rfl
                    obtain ⟨v43, g43, e43⟩ := hdep 11 rfl
                    have g43 : v43 = .agg x.cells.toArray := g43
                    subst g43
                    have e43 := e43 43 rfl
                    obtain ⟨vg, gg, eg⟩ := hdep 2 rfl
                    have gg : vg = .bool true := gg
                    subst gg
                    have eg := eg 34 rfl
                    refine want_yes rfl rfl eg ?_
                    exact op_run (by unfold execOp; simp [e39, e43, Act.eval, go_sem, hn]) (hK _ w1 (Ext.refl _) rfl)
                  | 13, ho =>
                    obtain rfl := Option.some.inj ho
                    obtain ⟨v34, g34, e34⟩ := hdep 2 rfl
                    have g34 : v34 = .bool true := g34
                    subst g34
                    have e34 := e34 34 rfl
                    obtain ⟨v44, g44, e44⟩ := hdep 12 rfl
                    have g44 : v44 = .bool false := g44
                    subst g44
                    have e44 := e44 44 rfl
                    refine want_none rfl ?_
                    exact op_run (by unfold execOp; simp [e34, e44, Act.eval, go_sem]) (hK _ w1 (Ext.refl _) rfl)
                  | i + 14, ho => cases ho
                · intro V w9 hx hg
                  have g0 : V 0 = .int .i64 (q : Int) := hg 0 (by decide)
                  have g1 : V 1 = .bool true := hg 1 (by decide)
                  have g2 : V 2 = .bool true := hg 2 (by decide)
                  have g3 : V 3 = .slice (some ⟨bo, oo, none⟩) o.length c1 := hg 3 (by decide)
                  have g4 : V 4 = .int .i64 (q : Int) := hg 4 (by decide)
                  have g5 : V 5 = .int .i64 (p : Int) := hg 5 (by decide)
                  have g6 : V 6 = .pointer (some ⟨bo, oo + p * 17, none⟩) := hg 6 (by decide)
                  have g7 : V 7 = .agg y.cells.toArray := hg 7 (by decide)
                  have g8 : V 8 = .slice (some ⟨bl, ol, none⟩) l.length c := hg 8 (by decide)
                  have g9 : V 9 = .int .i64 (k : Int) := hg 9 (by decide)
                  have g10 : V 10 = .pointer (some ⟨bl, ol + k * 17, none⟩) := hg 10 (by decide)
                  have g11 : V 11 = .agg x.cells.toArray := hg 11 (by decide)
                  have g12 : V 12 = .bool false := hg 12 (by decide)
                  have g13 : V 13 = .bool false := hg 13 (by decide)
                  simp only [List.length_cons, List.length_nil, fillAllN, dstOf, Act.put, List.getElem?_toArray, List.getElem?_cons_zero, List.getElem?_cons_succ, Option.bind_some, g0, g1, g2, g3, g4, g5, g6, g7, g8, g9, g10, g11, g12, g13, List.setIfInBounds_toArray, List.set_cons_zero, List.set_cons_succ]
                  clear g0 g1 g2 g3 g4 g5 g6 g7 g8 g9 g10 g11 g12 g13 hg
                  have HX8 := Lib.hid (HX6.out.trans hx)
                  clear hx hn
                  have HXW := Lib.hid (HX.out.trans HX8.out)
                  have HSW := Lib.hid (HO.out.ext HX8.out)
                  have HST := Lib.hid (show Sv w9 w9.heap.size 17 (some ⟨bo, oo, none⟩) c1 (rowsE (o.take q)) by rw [rowsE_take]; exact HSW.out.take q)
                  have HTL := Lib.hid (show (rowsE (o.take q)).length = q by rw [rowsE_length, List.length_take]; omega)
                  go_upto_region 11 with (first
                    | (with_reducible refine wpList_slice_to rfl 35 29 (.tmp 47) (.tmp 48) rfl i0 Tryz.underlying35 HI.out (some ⟨bo, oo, none⟩) o.length c1 q rfl rfl HQC.out ?_)
                    | (at_builtin; refine wpList_append_sv _ rfl (.tmp 46) (.tmp 49) 35 rfl w9.heap.size 29 i0 (.agg #[.int .i64 0, .int .i64 0, .int .i64 0, .int .i64 0, .int .i64 0, .int .i64 0, .int .i64 0, .int .i64 0, .int .i64 0, .int .i64 0, .int .i64 0, .int .i64 0, .int .i64 0, .int .i64 0, .int .i64 0, .int .i64 0, .int .i64 0]) 17 136 Tryz.underlying35 HI.out HZ.out HZ1.out HZ2.out rfl (by decide) _ 0 [] rfl (World.ownsRow_nil _ _ _ _) w9.heap.size (some ⟨bo, oo, none⟩) q c1 (rowsE (o.take q)) rfl HST.out HTL.out (by unfold maxLen; omega) (by omega) (Nat.le_refl _) ?_; intro v2 W2 g1 g2 _))
                  have hx3 : Ext w9 W2 := (Ext.refl _).grown g2 (own_low (World.ownsRow_nil w9 w9.heap.size 29 17))
                  have HO3 := Lib.hid (show W2.ownsRow w9.heap.size 29 17 v2 q (rowsE (o.take q)).flatten by simpa using g1)
                  have HRA2 := Lib.hid (HRAX.out W2 (HX8.out.trans hx3))
                  have hx6 : Ext W2 (W2.alloc (.cells x.cells.toArray 29)) := (Ext.refl _).alloc _
                  have HSN := Lib.hid (show Sv (W2.alloc (.cells x.cells.toArray 29)) (W2.alloc (.cells x.cells.toArray 29)).heap.size 17 (some ⟨W2.heap.size, 0, none⟩) 1 (rowsE [x]) from
                    ⟨by simp [rowsE], by decide, rowsE_rwk _, fun _ => ⟨W2.heap.size, 0, rfl, by simp, fun j u hu => by
                      rw [Nat.zero_add, cell_of_row _ _ _ _ _ _ (heap_alloc_new W2 _)]
                      simpa [rowsE] using hu⟩⟩)
                  have HO4 := Lib.hid (own_ext HO3.out hx6)
                  have HX4 := Lib.hid (hx3.trans hx6)
                  clear g1 g2 hx3 hx6
                  go_upto_region 12 with (first
                    | (with_reducible refine wpList_load_mid rfl 29 (.tmp 54) rfl bl (ol + k * 17) rfl x.cells _ HRA2.out Tryz.underlying29 rfl (by kernel_rfl) ?_)
                    | (refine wpList_buildRow rfl 35 29 55 rfl 17 (by decide) (by decide) x.cells rfl rfl Tryz.underlying35 (by kernel_rfl) (by kernel_rfl) ?_)
                    | (at_builtin; refine wpList_append_sv _ rfl (.tmp 51) (.tmp 56) 35 rfl w9.heap.size 29 i0 (.agg #[.int .i64 0, .int .i64 0, .int .i64 0, .int .i64 0, .int .i64 0, .int .i64 0, .int .i64 0, .int .i64 0, .int .i64 0, .int .i64 0, .int .i64 0, .int .i64 0, .int .i64 0, .int .i64 0, .int .i64 0, .int .i64 0, .int .i64 0]) 17 136 Tryz.underlying35 HI.out HZ.out HZ1.out HZ2.out rfl (by decide) _ q _ rfl HO4.out _ _ 1 1 (rowsE [x]) rfl HSN.out rfl (by unfold maxLen; omega) (by omega) HX4.out.size ?_; intro v6 W6 g1 g2 _))
                  have HX6 := Lib.hid (HX4.out.own HO4.out g2 (Nat.le_refl _))
                  have HO6 := Lib.hid g1
                  clear g1 g2
                  have HSD := Lib.hid (show Sv W6 W6.heap.size 17 (if c1 = q then (some ⟨bo, oo, none⟩) else Option.map (fun z : Addr => z.add (q * 17)) (some ⟨bo, oo, none⟩)) (c1 - q) (rowsE (o.drop q)) by rw [show rowsE (o.drop q) = (rowsE o).drop q by simp [rowsE]]; exact (HSW.out.ext HX6.out).drop (by rw [rowsE_length]; exact HQO.out))
                  have HDL := Lib.hid (show (rowsE (o.drop q)).length = o.length - q by rw [rowsE_length, List.length_drop])
                  go_wp2_with (first
                    | (with_reducible refine wpList_slice_from rfl 35 29 (.tmp 59) (.tmp 60) rfl i0 17 Tryz.underlying35 HI.out HZ1.out (some ⟨bo, oo, none⟩) o.length c1 q rfl rfl HQO.out ?_)
                    | (at_builtin; refine wpList_append_sv _ rfl (.tmp 58) (.tmp 61) 35 rfl w9.heap.size 29 i0 (.agg #[.int .i64 0, .int .i64 0, .int .i64 0, .int .i64 0, .int .i64 0, .int .i64 0, .int .i64 0, .int .i64 0, .int .i64 0, .int .i64 0, .int .i64 0, .int .i64 0, .int .i64 0, .int .i64 0, .int .i64 0, .int .i64 0, .int .i64 0]) 17 136 Tryz.underlying35 HI.out HZ.out HZ1.out HZ2.out rfl (by decide) _ (q + 1) _ rfl HO6.out W6.heap.size (if c1 = q then (some ⟨bo, oo, none⟩) else Option.map (fun z : Addr => z.add (q * 17)) (some ⟨bo, oo, none⟩)) (o.length - q) (c1 - q) (rowsE (o.drop q)) rfl HSD.out HDL.out (by unfold maxLen; omega) (by omega) HX6.out.size ?_; intro v7 W7 g1 g2 _))
                  have HX7 := Lib.hid (HX6.out.own HO6.out g2 (Nat.le_refl _))
                  have hol : (o.take q ++ (x :: o.drop q)).length = q + 1 + (o.length - q) := by rw [List.length_append, List.length_take, List.length_cons, List.length_drop]; omega
                  have hor : (rowsE (o.take q ++ (x :: o.drop q))).flatten = (rowsE (o.take q)).flatten ++ (rowsE [x]).flatten ++ (rowsE (o.drop q)).flatten := by simp [rowsE]
                  have HO7 := Lib.hid (show W7.ownsRow w9.heap.size 29 17 v7 (o.take q ++ (x :: o.drop q)).length (rowsE (o.take q ++ (x :: o.drop q))).flatten by rw [hol, hor]; exact g1)
                  clear hor g1 g2
                  generalize o.take q ++ (x :: o.drop q) = o2 at HO7 HIO2 hol
                  obtain ⟨A7, c7, rfl, _⟩ := own_form HO7.out
                  go_roundw
                  case rel => exact ⟨k + 1, o2, A7, c7, by go_num, by omega, rfl, by omega, Sv.of_own HO7.out (rowsE_rwk o2) (rowsE_length o2), HIO2.out, HXW.out.trans HX7.out⟩
                  case measure => simp [intOf]; omega
          · have hcm : cv < 0 := hlt9.2 hbe
            have HAT2 := Lib.hid (AtE.down (HPQ.out ▸ HAT.out) HYP.out hbe)
            clear hlt9 hbe
            go_upto_region 6 with fail
            refine wp_region_rel (fun i v w' => match i with
                | 0 => v = .int .i64 (q : Int)
                | 1 => v = .bool true
                | 2 => v = .bool true
                | 3 => v = .slice (some ⟨bl, ol, none⟩) l.length c
                | 4 => v = .int .i64 (k : Int)
                | 5 => v = .pointer (some ⟨bl, ol + k * 17, none⟩)
                | 6 => v = .agg x.cells.toArray
                | 7 => v = .slice (some ⟨bo, oo, none⟩) o.length c1
                | 8 => v = .int .i64 (q : Int)
                | 9 => v = .int .i64 (p : Int)
                | 10 => v = .pointer (some ⟨bo, oo + p * 17, none⟩)
                | 11 => v = .agg y.cells.toArray
                | 12 => v = .int .i64 cv
                | 13 => v = .bool true
                | 14 => v = .bool true
                | _ => True) hm (by kernel_rfl) (by kernel_rfl) rfl ?_ ?_ ?_
            · intro i v w1 w2 hx h
              match i, h with
              | 0, h => exact h
              | 1, h => exact h
              | 2, h => exact h
              | 3, h => exact h
              | 4, h => exact h
              | 5, h => exact h
              | 6, h => exact h
              | 7, h => exact h
              | 8, h => exact h
              | 9, h => exact h
              | 10, h => exact h
              | 11, h => exact h
              | 12, h => exact h
              | 13, h => exact h
              | 14, h => exact h
              | i + 15, h => exact h
            · intro i o ho b w1 hx hmiss hdep K hK
              match i, ho with
              | 0, ho =>
                obtain rfl := Option.some.inj ho
                have e5 : b.tmps[5]? = some (.int .i64 (q : Int)) := hmiss 5 rfl
                refine want_none rfl ?_
                exact op_move rfl (eval_of e5) (hK _ w1 (Ext.refl _) rfl)
              | 1, ho =>
                obtain rfl := Option.some.inj ho
                obtain ⟨v15, g15, e15⟩ := hdep 0 rfl
                have g15 : v15 = .int .i64 (q : Int) := g15
                subst g15
                have e15 := e15 15 rfl
                refine want_none rfl ?_
                exact op_run (by unfold execOp; simp [e15, Act.eval, go_sem, hq0]) (hK _ w1 (Ext.refl _) rfl)
              | 2, ho =>
                obtain rfl := Option.some.inj ho
                obtain ⟨v16, g16, e16⟩ := hdep 1 rfl
                have g16 : v16 = .bool true := g16
                subst g16
                have e16 := e16 16 rfl
                refine want_none rfl ?_
                exact op_move rfl (eval_of e16) (hK _ w1 (Ext.refl _) rfl)
              | 3, ho =>
                obtain rfl := Option.some.inj ho
                have e0 : b.tmps[0]? = some (.slice (some ⟨bl, ol, none⟩) l.length c) := hmiss 0 rfl
                obtain ⟨vg, gg, eg⟩ := hdep 2 rfl
                have gg : vg = .bool true := gg
                subst gg
                have eg := eg 17 rfl
                refine want_yes rfl rfl eg ?_
                exact op_move rfl (eval_of e0) (hK _ w1 (Ext.refl _) rfl)
              | 4, ho =>
                obtain rfl := Option.some.inj ho
                have e4 : b.tmps[4]? = some (.int .i64 (k : Int)) := hmiss 4 rfl
                obtain ⟨vg, gg, eg⟩ := hdep 2 rfl
                have gg : vg = .bool true := gg
                subst gg
                have eg := eg 17 rfl
                refine want_yes rfl rfl eg ?_
                exact op_move rfl (eval_of e4) (hK _ w1 (Ext.refl _) rfl)
              | 5, ho =>
                obtain rfl := Option.some.inj ho
                obtain ⟨v18, g18, e18⟩ := hdep 3 rfl
                have g18 : v18 = .slice (some ⟨bl, ol, none⟩) l.length c := g18
                subst g18
                have e18 := e18 18 rfl
                obtain ⟨v19, g19, e19⟩ := hdep 4 rfl
                have g19 : v19 = .int .i64 (k : Int) := g19
                subst g19
                have e19 := e19 19 rfl
                obtain ⟨vg, gg, eg⟩ := hdep 2 rfl
                have gg : vg = .bool true := gg
                subst gg
                have eg := eg 17 rfl
                refine want_yes rfl rfl eg ?_
                exact op_run (by unfold execOp; simp [e18, e19, Act.eval, go_sem, hk0, hk1]) (hK _ w1 (Ext.refl _) rfl)
              | 6, ho =>
                obtain rfl := Option.some.inj ho
                obtain ⟨v20, g20, e20⟩ := hdep 5 rfl
                have g20 : v20 = .pointer (some ⟨bl, ol + k * 17, none⟩) := g20
                subst g20
                have e20 := e20 20 rfl
                obtain ⟨vg, gg, eg⟩ := hdep 2 rfl
                have gg : vg = .bool true := gg
                subst gg
                have eg := eg 17 rfl
                refine want_yes rfl rfl eg ?_
                exact wp_load_mid 29 (.tmp 20) rfl (bl) (ol + k * 17) (eval_of e20) (x.cells) _ (HRX.out _ hx) Tryz.underlying29 rfl (by kernel_rfl) (hK _ w1 (Ext.refl _) rfl)
              | 7, ho =>
                obtain rfl := Option.some.inj ho
                have e3 : b.tmps[3]? = some (.slice (some ⟨bo, oo, none⟩) o.length c1) := hmiss 3 rfl
                obtain ⟨vg, gg, eg⟩ := hdep 2 rfl
                have gg : vg = .bool true := gg
                subst gg
                have eg := eg 17 rfl
                refine want_yes rfl rfl eg ?_
                exact op_move rfl (eval_of e3) (hK _ w1 (Ext.refl _) rfl)
              | 8, ho =>
                obtain rfl := Option.some.inj ho
                have e5 : b.tmps[5]? = some (.int .i64 (q : Int)) := hmiss 5 rfl
                obtain ⟨vg, gg, eg⟩ := hdep 2 rfl
                have gg : vg = .bool true := gg
                subst gg
                have eg := eg 17 rfl
                refine want_yes rfl rfl eg ?_
                exact op_move rfl (eval_of e5) (hK _ w1 (Ext.refl _) rfl)
              | 9, ho =>
                obtain rfl := Option.some.inj ho
                obtain ⟨v23, g23, e23⟩ := hdep 8 rfl
                have g23 : v23 = .int .i64 (q : Int) := g23
                subst g23
                have e23 := e23 23 rfl
                obtain ⟨vg, gg, eg⟩ := hdep 2 rfl
                have gg : vg = .bool true := gg
                subst gg
                have eg := eg 17 rfl
                refine want_yes rfl rfl eg ?_
                exact op_run (by unfold execOp; simp [e23, Act.eval, go_sem, hqp]) (hK _ w1 (Ext.refl _) rfl)
              | 10, ho =>
                obtain rfl := Option.some.inj ho
                obtain ⟨v22, g22, e22⟩ := hdep 7 rfl
                have g22 : v22 = .slice (some ⟨bo, oo, none⟩) o.length c1 := g22
                subst g22
                have e22 := e22 22 rfl
                obtain ⟨v24, g24, e24⟩ := hdep 9 rfl
                have g24 : v24 = .int .i64 (p : Int) := g24
                subst g24
                have e24 := e24 24 rfl
                obtain ⟨vg, gg, eg⟩ := hdep 2 rfl
                have gg : vg = .bool true := gg
                subst gg
                have eg := eg 17 rfl
                refine want_yes rfl rfl eg ?_
                exact op_run (by unfold execOp; simp [e22, e24, Act.eval, go_sem, hpl, hp0]) (hK _ w1 (Ext.refl _) rfl)
              | 11, ho =>
                obtain rfl := Option.some.inj ho
                obtain ⟨v25, g25, e25⟩ := hdep 10 rfl
                have g25 : v25 = .pointer (some ⟨bo, oo + p * 17, none⟩) := g25
                subst g25
                have e25 := e25 25 rfl
                obtain ⟨vg, gg, eg⟩ := hdep 2 rfl
                have gg : vg = .bool true := gg
                subst gg
                have eg := eg 17 rfl
                refine want_yes rfl rfl eg ?_
                exact wp_load_mid 29 (.tmp 25) rfl (bo) (oo + p * 17) (eval_of e25) (y.cells) _ (HRY.out _ hx) Tryz.underlying29 rfl (by kernel_rfl) (hK _ w1 (Ext.refl _) rfl)
              | 12, ho =>
                obtain rfl := Option.some.inj ho
                obtain ⟨v21, g21, e21⟩ := hdep 6 rfl
                have g21 : v21 = .agg x.cells.toArray := g21
                subst g21
                have e21 := e21 21 rfl
                obtain ⟨v26, g26, e26⟩ := hdep 11 rfl
                have g26 : v26 = .agg y.cells.toArray := g26
                subst g26
                have e26 := e26 26 rfl
                obtain ⟨vg, gg, eg⟩ := hdep 2 rfl
                have gg : vg = .bool true := gg
                subst gg
                have eg := eg 17 rfl
                refine want_yes rfl rfl eg ?_
                have hc : Calls Tryz.prog 20 #[.agg x.cells.toArray, .agg y.cells.toArray] w1 fun e w' => ∃ v, e = .returned v ∧ Ext w1 w' ∧ (v = .int .i64 cv) := (HC.out w1).mono fun e w2 ⟨h1, h2⟩ => ⟨_, h1, h2, rfl⟩
                exact op_call (G := fun v w' => v = .int .i64 cv) rfl (by simp [eval_of e21, eval_of e26]) (fun _ _ => by kernel_rfl) hc (fun v w' h1 h2 => hK v w' h1 h2)
              | 13, ho =>
                obtain rfl := Option.some.inj ho
                obtain ⟨v27, g27, e27⟩ := hdep 12 rfl
                obtain rfl := g27
                have e27 := e27 27 rfl
                obtain ⟨vg, gg, eg⟩ := hdep 2 rfl
                have gg : vg = .bool true := gg
                subst gg
                have eg := eg 17 rfl
                refine want_yes rfl rfl eg ?_
                exact op_run (by unfold execOp; simp [e27, Act.eval, go_sem, hcm]) (hK _ w1 (Ext.refl _) rfl)
              | 14, ho =>
                obtain rfl := Option.some.inj ho
                obtain ⟨v17, g17, e17⟩ := hdep 2 rfl
                have g17 : v17 = .bool true := g17
                subst g17
                have e17 := e17 17 rfl
                obtain ⟨v28, g28, e28⟩ := hdep 13 rfl
                have g28 : v28 = .bool true := g28
                subst g28
                have e28 := e28 28 rfl
                refine want_none rfl ?_
                exact op_run (by unfold execOp; simp [e17, e28, Act.eval, go_sem]) (hK _ w1 (Ext.refl _) rfl)
              | i + 15, ho => cases ho
            · intro V w9 hx hg
              have g0 : V 0 = .int .i64 (q : Int) := hg 0 (by decide)
              have g1 : V 1 = .bool true := hg 1 (by decide)
              have g2 : V 2 = .bool true := hg 2 (by decide)
              have g3 : V 3 = .slice (some ⟨bl, ol, none⟩) l.length c := hg 3 (by decide)
              have g4 : V 4 = .int .i64 (k : Int) := hg 4 (by decide)
              have g5 : V 5 = .pointer (some ⟨bl, ol + k * 17, none⟩) := hg 5 (by decide)
              have g6 : V 6 = .agg x.cells.toArray := hg 6 (by decide)
              have g7 : V 7 = .slice (some ⟨bo, oo, none⟩) o.length c1 := hg 7 (by decide)
              have g8 : V 8 = .int .i64 (q : Int) := hg 8 (by decide)
              have g9 : V 9 = .int .i64 (p : Int) := hg 9 (by decide)
              have g10 : V 10 = .pointer (some ⟨bo, oo + p * 17, none⟩) := hg 10 (by decide)
              have g11 : V 11 = .agg y.cells.toArray := hg 11 (by decide)
              have g13 : V 13 = .bool true := hg 13 (by decide)
              have g14 : V 14 = .bool true := hg 14 (by decide)
              have g12 := hg 12 (by decide)
              simp only [List.length_cons, List.length_nil, fillAllN, dstOf, Act.put, List.getElem?_toArray, List.getElem?_cons_zero, List.getElem?_cons_succ, Option.bind_some, g0, g1, g2, g3, g4, g5, g6, g7, g8, g9, g10, g11, g13, g14, List.setIfInBounds_toArray, List.set_cons_zero, List.set_cons_succ]
              clear g0 g1 g2 g3 g4 g5 g6 g7 g8 g9 g10 g11 g13 g14 hg
              have HX6 := Lib.hid (HXQ.out.trans hx)
              clear hx hcm
              go_wp2_with fail
              go_roundw
              case rel => exact ⟨p, rfl, HAT2.out, HX6.out⟩
              case measure => have := HPQ.out; simp [intOf]; omega
    · obtain rfl : k = l.length := by omega
      rw [List.take_length] at HIO
      go_wp2_with fail
      go_ret
      exact ⟨o, HIO.out, A1, c1, rfl, HO.out, HX.out⟩
end Go.Proofs.YtlinhgannajfpaaGreatDoor

/- Sorted and Same of edits, as the laws want them. -/
namespace Go.Proofs.YtlinhgannajfpaaGreatDoor
open Go Go.RowKit

theorem own_svE {w : World} {base : Nat} {v : Value} {l : List Ed} (h : w.ownsRow base 29 17 v l.length (rowsE l).flatten) : ∃ A c, v = .slice A l.length c ∧ Sv w w.heap.size 17 A c (rowsE l) := by
  obtain ⟨A, c, rfl, _⟩ := own_form h
  exact ⟨A, c, rfl, Sv.of_own h (rowsE_rwk _) (by rw [rowsE_length])⟩
theorem sameE_true (l m1 m2 : List Ed) (h1 : IsOrd l m1) (h2 : IsOrd l m2) (A A2 : Option Addr) (c c2 : Nat) (w : World) (hs : Sv w w.heap.size 17 A c (rowsE m1)) (hs2 : Sv w w.heap.size 17 A2 c2 (rowsE m2)) (hl : l.length ≤ 1000000) :
    Calls Tryz.prog 21 #[.slice A m1.length c, .slice A2 m2.length c2] w fun e w' => e = .returned (.bool true) ∧ Ext w w' := by
  have h := refSame25_any A A2 c c2 m1 m2 w hs hs2 (by have := h1.len; omega)
  rw [decide_eq_true (h1.uniq h2)] at h
  exact h
theorem sameB_true (b : List UInt8) (A A2 : Option Addr) (c c2 : Nat) (w : World) (hs : Sv w w.heap.size 1 A c (rowsB b)) (hs2 : Sv w w.heap.size 1 A2 c2 (rowsB b)) :
    Calls Tryz.prog 24 #[.slice A b.length c, .slice A2 b.length c2] w fun e w' => e = .returned (.bool true) ∧ Ext w w' := by
  have h := refSameB_any b b A A2 c c2 w hs hs2
  rw [beq_self_eq_true] at h
  exact h
end Go.Proofs.YtlinhgannajfpaaGreatDoor
