/- YtlinhgannajfpaaGreatDoorUv · YtlinhgannajfpaaGreatDoorZa · YtlinhgannajfpaaGreatDoorEq -/
import Derived.Test.YtlinhgannajfpaaGreatDoorRows
import Derived.LaidMore
import Derived.Stop.Joined
import Derived.Lay
import Derived.Test.YtlinhgannajfpaaGreatDoorZa10
/- What the laid variables give: the tables of the kinds and of the axes, the constants of both hashes. -/
namespace Go.Proofs.YtlinhgannajfpaaGreatDoor
open Go Go.RowKit Go.ChangeShapes Go.WideShapes Go.ChangeAt

theorem wf64 {n : Int} (h : (Lit.int .i64 n).wf = true) : fit64 n := by
  unfold fit64
  simpa [Lit.wf, IntKind.min, IntKind.max, IntKind.signed, IntKind.bits] using h
theorem fitE_of {x : Ed} (h : ∀ n, n ∈ x.ints → (Lit.int .i64 n).wf = true) : FitE x := fun n hn => wf64 (h n (by
  simp only [numsE, List.mem_cons, List.not_mem_nil, or_false] at hn
  simp only [Ed.ints, List.mem_cons, List.not_mem_nil, or_false]
  rcases hn with e | e | e | e | e | e | e | e | e | e | e | e | e | e | e | e | e <;> simp [e]))
theorem fits_of {x : Ed} (h : ∀ n, n ∈ x.ints → (Lit.int .i64 n).wf = true) : fits x :=
  ⟨(wf64 (h _ (by simp [Ed.ints]))).2, (wf64 (h _ (by simp [Ed.ints]))).2, (wf64 (h _ (by simp [Ed.ints]))).2⟩
section
variable {P : Program} {H : Type} {enc : TypeId × Value → H} {w : World} {spare : Nat → Bool} {held : Bool} {n : Nat}
theorem int_at {k : IntKind} {t : TypeId} (ht : P.underlying t = some (.int k)) {cs : List Value} {off : Nat} {v : Int} {p : List MemPlace} (h : DataW.trod enc P w 0 spare held n t ((cs.drop off).take 1) = some (.lit (.int k v), p)) : cs[off]? = some (.int k v) := by
  obtain ⟨m, e1, e2, _⟩ := DataW.trod_int ht h
  injection e2 with e2 _
  injection e2 with e2
  injection e2 with _ e2
  subst e2
  have h1 : ((cs.drop off).take 1)[0]? = some (.int k v) := by rw [e1]; rfl
  rw [List.getElem?_take, if_pos (by decide), List.getElem?_drop] at h1
  exact h1
theorem str_at {t : TypeId} (ht : P.underlying t = some .string) {cs : List Value} {off : Nat} {l : List UInt8} {p : List MemPlace} (h : DataW.trod enc P w 0 spare held n t ((cs.drop off).take 1) = some (.lit (.string l), p)) : cs[off]? = some (strV l) := by
  obtain ⟨s, e1, e2, _⟩ := DataW.trod_string ht h
  injection e2 with e2 _
  injection e2 with e2
  injection e2 with e2
  have e3 : s = ⟨l.toArray⟩ := by
    obtain ⟨⟨x⟩⟩ := s
    rw [e2]
  subst e3
  have h1 : ((cs.drop off).take 1)[0]? = some (strV l) := by rw [e1]; rfl
  rw [List.getElem?_take, if_pos (by decide), List.getElem?_drop] at h1
  exact h1
theorem part_at {ds : List (DataW H)} {xs : List (DataW H × List MemPlace)} {p : List MemPlace} {q : List MemPlace} (hx : ((DataW.agg ds, p) : DataW H × List MemPlace) = (.agg (xs.map (·.1)), q)) {i : Nat} {d : DataW H} (hd : ds[i]? = some d) : ∃ r, xs[i]? = some (d, r) := by
  injection hx with hx _
  injection hx with hx
  subst hx
  rw [List.getElem?_map] at hd
  obtain ⟨x, hx, rfl⟩ := Option.map_eq_some_iff.1 hd
  exact ⟨x.2, hx⟩
end
theorem gRows : Tryz.prog.globalNamed "voxel/edit.rows" = some 0 := by kernel_rfl
theorem gAxes : Tryz.prog.globalNamed "voxel/point.axes" = some 1 := by kernel_rfl
theorem gHash : Tryz.prog.globalNamed "voxel/hash.constants" = some 2 := by kernel_rfl
theorem gRef2 : Tryz.prog.globalNamed "voxel/voxelref02.constants" = some 3 := by kernel_rfl
def laidL : List (String × DataW Unit) := [("voxel/point.axes", Rows.laid_voxel_point_axes), ("voxel/voxelref02.constants", Rows.laid_voxel_voxelref02_constants), ("voxel/hash.constants", Rows.laid_voxel_hash_constants), ("voxel/edit.rows", Rows.laid_voxel_edit_rows)]
set_option maxRecDepth 100000 in
theorem rows_of {W : World} {cs : Array Value} {f : Nat} {p : List MemPlace} {enc : TypeId × Value → Unit} {spare : Nat → Bool} {held : Bool} (hv : W.var? Tryz.prog "voxel/edit.rows" = some cs) (hd : DataW.trod enc Tryz.prog W 0 spare held f 80 cs.toList = some (Rows.laid_voxel_edit_rows, p)) : RowsIn W ∧ NamesIn W := by
  obtain ⟨xs, m, _, hx, _, _, hg⟩ := DataW.trod_array Tryz.underlying80 hd
  have c2 : Tryz.prog.cellsOf 79 = 2 := by kernel_rfl
  have c1 : Tryz.prog.cellsOf 3 = 1 := by kernel_rfl
  have c3 : Tryz.prog.cellsOf 9 = 1 := by kernel_rfl
  rw [c2] at hg
  have key : ∀ i, i < 9 → W.cell? ⟨0, 2 * i + 1, none⟩ = some (.int .i64 (rowF i)) ∧ W.cell? ⟨0, 2 * i, none⟩ = some (strV (nameF i)) := by
    intro i hi
    have hpart : ∃ r, xs[i]? = some (.agg [.lit (.string (nameF i)), .lit (.int .i64 (rowF i))], r) := by
      match i, hi with
      | 0, _ => exact part_at hx (i := 0) rfl
      | 1, _ => exact part_at hx (i := 1) rfl
      | 2, _ => exact part_at hx (i := 2) rfl
      | 3, _ => exact part_at hx (i := 3) rfl
      | 4, _ => exact part_at hx (i := 4) rfl
      | 5, _ => exact part_at hx (i := 5) rfl
      | 6, _ => exact part_at hx (i := 6) rfl
      | 7, _ => exact part_at hx (i := 7) rfl
      | 8, _ => exact part_at hx (i := 8) rfl
      | i + 9, h => omega
    obtain ⟨r, hp⟩ := hpart
    have g := hg i hi
    rw [hp] at g
    obtain ⟨ys, k, _, hy, _, _, hf⟩ := DataW.trod_struct Tryz.underlying79 g
    obtain ⟨r1, h1⟩ := part_at hy (i := 1) rfl
    obtain ⟨r0, h0⟩ := part_at hy (i := 0) rfl
    have f1 : DataW.trod enc Tryz.prog W 0 spare held k 3 ((((cs.toList.drop (i * 2)).take 2).drop 1).take (Tryz.prog.cellsOf 3)) = ys[1]? := hf 1 _ rfl
    have f0 : DataW.trod enc Tryz.prog W 0 spare held k 9 ((((cs.toList.drop (i * 2)).take 2).drop 0).take (Tryz.prog.cellsOf 9)) = ys[0]? := hf 0 _ rfl
    rw [h1, c1] at f1
    rw [h0, c3] at f0
    have q := int_at Tryz.underlying3 f1
    have q0 := str_at Tryz.underlying9 f0
    rw [List.getElem?_take, if_pos (by decide), List.getElem?_drop, Array.getElem?_toList] at q q0
    rw [World.var?_cell gRows hv (2 * i + 1), World.var?_cell gRows hv (2 * i), show 2 * i + 1 = i * 2 + 1 by omega, show 2 * i = i * 2 + 0 by omega]
    exact ⟨q, q0⟩
  have hlt := World.block_lt_of_cell? W _ (key 0 (by decide)).1
  exact ⟨⟨fun i hi => (key i hi).1, hlt⟩, ⟨fun i hi => (key i hi).2, hlt⟩⟩
set_option maxRecDepth 100000 in
theorem axes_of {W : World} {cs : Array Value} {f : Nat} {p : List MemPlace} {enc : TypeId × Value → Unit} {spare : Nat → Bool} {held : Bool} (hv : W.var? Tryz.prog "voxel/point.axes" = some cs) (hd : DataW.trod enc Tryz.prog W 0 spare held f 148 cs.toList = some (Rows.laid_voxel_point_axes, p)) : AxesIn W := by
  obtain ⟨xs, m, _, hx, _, _, hg⟩ := DataW.trod_array Tryz.underlying148 hd
  have c1 : Tryz.prog.cellsOf 9 = 1 := by kernel_rfl
  rw [c1] at hg
  have key : ∀ i, i < 6 → W.cell? ⟨1, i, none⟩ = some (strV (axisL i)) := by
    intro i hi
    have hpart : ∃ r, xs[i]? = some (.lit (.string (axisL i)), r) := by
      match i, hi with
      | 0, _ => exact part_at hx (i := 0) rfl
      | 1, _ => exact part_at hx (i := 1) rfl
      | 2, _ => exact part_at hx (i := 2) rfl
      | 3, _ => exact part_at hx (i := 3) rfl
      | 4, _ => exact part_at hx (i := 4) rfl
      | 5, _ => exact part_at hx (i := 5) rfl
      | i + 6, h => omega
    obtain ⟨r, hp⟩ := hpart
    have g := hg i hi
    rw [hp] at g
    have q := str_at Tryz.underlying9 g
    rw [Array.getElem?_toList] at q
    rw [World.var?_cell gAxes hv i]
    rwa [Nat.mul_one] at q
  exact ⟨key, World.block_lt_of_cell? W _ (key 0 (by decide))⟩
set_option maxRecDepth 100000 in
theorem consts_of {W : World} {cs : Array Value} {f : Nat} {p : List MemPlace} {enc : TypeId × Value → Unit} {spare : Nat → Bool} {held : Bool} {nm : String} {gid : Nat} {D : DataW Unit} (hD : D = .agg ((List.range 64).map fun i => .lit (.int .u32 (wn (kW i) : Int)))) (hn : Tryz.prog.globalNamed nm = some gid) (hv : W.var? Tryz.prog nm = some cs) (hd : DataW.trod enc Tryz.prog W 0 spare held f 155 cs.toList = some (D, p)) : KIn W gid := by
  subst hD
  obtain ⟨xs, m, _, hx, _, _, hg⟩ := DataW.trod_array Tryz.underlying155 hd
  have c1 : Tryz.prog.cellsOf 112 = 1 := by kernel_rfl
  rw [c1] at hg
  have key : ∀ i, i < 64 → W.cell? ⟨gid, i, none⟩ = some (.int .u32 (wn (kW i) : Int)) := by
    intro i hi
    obtain ⟨r, hp⟩ := part_at hx (i := i) (d := .lit (.int .u32 (wn (kW i) : Int))) (by simp [hi])
    have g := hg i hi
    rw [hp] at g
    have q := int_at Tryz.underlying112 g
    rw [Array.getElem?_toList] at q
    rw [World.var?_cell hn hv i]
    rwa [Nat.mul_one] at q
  exact ⟨key, World.block_lt_of_cell? W _ (key 0 (by decide))⟩
theorem datHash : (Rows.laid_voxel_hash_constants : DataW Unit) = .agg ((List.range 64).map fun i => .lit (.int .u32 (wn (kW i) : Int))) := by kernel_rfl
theorem datRef2 : (Rows.laid_voxel_voxelref02_constants : DataW Unit) = .agg ((List.range 64).map fun i => .lit (.int .u32 (wn (kW i) : Int))) := by kernel_rfl
theorem laid_of {W : World} (h : laidMetH Tryz.prog laidL W) : EnvI W := by
  rw [MakeChecks.laidMetH_plain _ _ _ (by kernel_rfl)] at h
  obtain ⟨ps, ⟨g0, t0, cs0, f0, p0, q0, hg0, ht0, hv0, hd0, ⟨g1, t1, cs1, f1, p1, q1, hg1, ht1, hv1, hd1, ⟨g2, t2, cs2, f2, p2, q2, hg2, ht2, hv2, hd2, ⟨g3, t3, cs3, f3, p3, q3, hg3, ht3, hv3, hd3, _, _⟩, _⟩, _⟩, _⟩, _, _⟩ := h
  obtain rfl := Option.some.inj (gAxes.symm.trans hg0)
  obtain rfl := Option.some.inj (gRef2.symm.trans hg1)
  obtain rfl := Option.some.inj (gHash.symm.trans hg2)
  obtain rfl := Option.some.inj (gRows.symm.trans hg3)
  obtain rfl := Option.some.inj ((show (Tryz.prog.globals[1]?).map (·.type) = some 148 by kernel_rfl).symm.trans ht0)
  obtain rfl := Option.some.inj ((show (Tryz.prog.globals[3]?).map (·.type) = some 155 by kernel_rfl).symm.trans ht1)
  obtain rfl := Option.some.inj ((show (Tryz.prog.globals[2]?).map (·.type) = some 155 by kernel_rfl).symm.trans ht2)
  obtain rfl := Option.some.inj ((show (Tryz.prog.globals[0]?).map (·.type) = some 80 by kernel_rfl).symm.trans ht3)
  exact ⟨axes_of hv0 hd0, (rows_of hv3 hd3).1, (rows_of hv3 hd3).2, consts_of datHash gHash hv2 hd2, consts_of datRef2 gRef2 hv1 hd1⟩
end Go.Proofs.YtlinhgannajfpaaGreatDoor

/- Plain laws: what Decode gives of an encoding; what an encoding is of; Check at greater depths and more materials. -/
namespace Go.Proofs.YtlinhgannajfpaaGreatDoor
open Go Go.RowKit

theorem edOf_nums (x : Ed) : edOf (numsE x) = x := rfl
theorem dec_enc {x : Ed} (h : FitE x) : decE (encE x) = if formedE x then (x, 0) else (zeroE, 1) := by
  have h1 := getL_enc h (by show 17 ≤ 1000000; omega) []
  rw [List.append_nil] at h1
  unfold decE encE
  rw [h1]
  simp only [edOf_nums]
  rw [if_neg (by
    rintro (h | h)
    · exact h rfl
    · exact h rfl)]
  rfl
theorem dec_back {b : List UInt8} {x : Ed} (h : decE b = (x, 0)) : encE x = b ∧ formedE x = true ∧ FitE x := by
  unfold decE at h
  split at h
  · rename_i er hg
    injection h with _ h
    unfold eno at h
    split at h <;> omega
  · rename_i l k hg
    split at h
    · injection h with _ h; omega
    · rename_i hk
      split at h
      · rename_i hf
        injection h with h _
        subst h
        obtain ⟨h1, h2, h3⟩ := getL_back hg
        have hk1 : k = b.length := Decidable.byContradiction fun hh => hk (.inl hh)
        have hk2 : l.length = 17 := Decidable.byContradiction fun hh => hk (.inr hh)
        subst hk1
        rw [List.take_length] at h2
        unfold encE FitE
        rw [numsE_edOf hk2]
        exact ⟨h2.symm, hf, h3⟩
      · injection h with _ h; omega
theorem enc_beq {x y : Ed} (hx : FitE x) (hy : FitE y) : (encE x == encE y) = decide (x = y) := by
  rw [Bool.eq_iff_iff, beq_iff_eq, decide_eq_true_eq]
  exact ⟨fun h => numsE_inj (encL_inj hx hy (by show 17 ≤ 1000000; omega) (by show 17 ≤ 1000000; omega) h), fun h => by rw [h]⟩
theorem cmp_beq (x y : Ed) : decide (cmpV (numsE x) (numsE y) = 0) = decide (x = y) := by
  rw [decide_eq_decide, cmpV_zero (l := numsE x) (m := numsE y) rfl]
  exact ⟨numsE_inj, fun h => by rw [h]⟩
theorem inP_more {p : Pt} {s t : Int} (h : s ≤ t) (hp : inP p (cubeB s) = true) : inP p (cubeB t) = true := by
  unfold inP cubeB at *
  simp only [Bool.and_eq_true, decide_eq_true_eq] at *
  omega
theorem bad_more {x : Ed} {s t m n : Int} (h : s ≤ t) (hm : m ≤ n) (hb : badE x s m = false) : badE x t n = false := by
  rw [badE_def] at *
  simp only [Bool.or_eq_false_iff, Bool.and_eq_false_iff, Bool.not_eq_false', decide_eq_true_eq] at *
  refine ⟨hb.1.imp id fun h1 => ⟨h1.1, inP_more h h1.2.1, inP_more h h1.2.2⟩, hb.2.1.imp id (inP_more h), hb.2.2.1, ?_, hb.2.2.2.2⟩
  have := hb.2.2.2.1
  omega
theorem pow_more {a b : Nat} (h : a ≤ b) : (2 : Int) ^ a ≤ 2 ^ b := by
  have h1 := Nat.pow_le_pow_right (n := 2) (by decide) h
  have e : ∀ k : Nat, (2 : Int) ^ k = ((2 ^ k : Nat) : Int) := fun k => by simp
  rw [e, e]
  omega
theorem chk_more {x : Ed} {d m d2 m2 : Int} (h : checkE x d m = 0) (hd : d ≤ d2) (hd2 : d2 ≤ 14) (hm : m ≤ m2) (hm2 : m2 ≤ 256) : checkE x d2 m2 = 0 := by
  unfold checkE at *
  split at h
  · rename_i h1
    rw [decide_eq_true_eq] at h1
    split at h
    · rename_i h2
      simp only [Bool.and_eq_true, decide_eq_true_eq] at h2
      split at h
      · cases h
      · rename_i h3
        rw [Bool.not_eq_true] at h3
        rw [if_pos (by rw [decide_eq_true_eq]; omega), if_pos (by simp only [Bool.and_eq_true, decide_eq_true_eq]; exact ⟨by omega, h2.2⟩), if_neg]
        rw [Bool.not_eq_true]
        exact bad_more (pow_more (by omega)) hm h3
    · cases h
  · cases h
theorem chk_formed {x : Ed} {d m : Int} (h : checkE x d m = 0) : formedE x = true := by
  unfold checkE at h
  split at h
  · split at h
    · rename_i h2
      exact (Bool.and_eq_true_iff.1 h2).2
    · cases h
  · cases h
end Go.Proofs.YtlinhgannajfpaaGreatDoor

/- A comparison of two structs in a plain walk, by its run. -/
namespace Go.Proofs.YtlinhgannajfpaaGreatDoor
open Go Go.RowKit

theorem wpList_cmp {P : Program} {ops : Array Oper} {rest : List Oper} {o : Oper} {a : Act} {w : World} {Q : Exit → Act → World → Prop} (k : BinOp) (ty : TypeId) (x y : Operand) (t2 : TypeId) (ho : o.op = .binOp k ty x y t2) (hw : Region.wanted o (yielded ops a.tmps) = true)
    (v1 v2 : Array Value) (v : Value) (hx : a.eval x = .agg v1) (hy : a.eval y = .agg v2) (hm : P.eqGuardType P.depth ty = false) (hr : ∀ w, (binOp k ty (.agg v1) (.agg v2)).run P w = .ok v w) (h : wpList P ops Q rest (a.put o.dst v) w) : wpList P ops Q (o :: rest) a w := by
  refine wpList_step fun K hK => ?_
  rw [if_pos hw]
  refine op_run (v := v) (w2 := w) ?_ (hK _ _ h)
  unfold execOp
  simp [ho, hx, hy, run_eqGuard_agg, hm, hr]
/-- The same, told for one slot: at any other operation it fails at once. -/
theorem wpList_cmp_d {P : Program} {ops : Array Oper} {rest : List Oper} {o : Oper} {a : Act} {w : World} {Q : Exit → Act → World → Prop} (d : Nat) (_hd : o.dst = some d) (k : BinOp) (ty : TypeId) (x y : Operand) (t2 : TypeId) (ho : o.op = .binOp k ty x y t2) (hw : Region.wanted o (yielded ops a.tmps) = true)
    (v1 v2 : Array Value) (v : Value) (hx : a.eval x = .agg v1) (hy : a.eval y = .agg v2) (hm : P.eqGuardType P.depth ty = false) (hr : ∀ w, (binOp k ty (.agg v1) (.agg v2)).run P w = .ok v w) (h : wpList P ops Q rest (a.put o.dst v) w) : wpList P ops Q (o :: rest) a w :=
  wpList_cmp k ty x y t2 ho hw v1 v2 v hx hy hm hr h
theorem wpList_load_blk_d {P : Program} {ops : Array Oper} {rest : List Oper} {o : Oper} {a : Act} {w : World} {Q : Exit → Act → World → Prop} (d : Nat) (_hd : o.dst = some d) (ty : TypeId) (x : Operand) (ho : o.op = .load ty x) (hw : Region.wanted o (yielded ops a.tmps) = true)
    {b : Nat} {t : TypeId} {vs : List Value} (hB : Arr w b t vs) (hx : a.eval x = .pointer (some ⟨b, 0, none⟩)) (d : TypeDesc) (hu : P.underlying ty = some d)
    (hd : (match d with | .struct _ | .array _ _ => true | _ => false) = true) (hi : (P.info? ty).map (·.size) = some vs.length) (h : wpList P ops Q rest (a.put o.dst (.agg vs.toArray)) w) : wpList P ops Q (o :: rest) a w :=
  wpList_load_blk ty x ho hw hB hx d hu hd hi h
end Go.Proofs.YtlinhgannajfpaaGreatDoor
