/- Reading of arguments of the layer of locks. · What the laid variables give: the table of the kinds and the box of the world are there. -/
import Derived.LaidMore
import Derived.Stop.Joined
import Derived.Lay
import Derived.Test.YtjceebpafnnffaaDoorZa7
namespace Go.Proofs.YtjceebpafnnffaaDoor
open Go Go.RowKit Go.ChangeShapes Go.WideShapes Go.ChangeAt

def coverB (P : Program) (fs : Array Field) (n : Nat) : Bool := (List.range n).all fun j => (List.range fs.size).any fun i => match fs[i]? with | some f => decide (f.offset ≤ j) && decide (j < f.offset + P.cellsOf f.type) | none => false
theorem cover_of {P : Program} {fs : Array Field} {n : Nat} (h : coverB P fs n = true) : ∀ j, j < n → ∃ (i : Nat) (f : Field), fs[i]? = some f ∧ f.offset ≤ j ∧ j < f.offset + P.cellsOf f.type := fun j hj => by
  unfold coverB at h
  rw [List.all_eq_true] at h
  have h1 := h j (List.mem_range.2 hj)
  rw [List.any_eq_true] at h1
  obtain ⟨i, hi, h2⟩ := h1
  cases hf : fs[i]? with
  | none => rw [hf] at h2; cases h2
  | some f =>
    rw [hf] at h2
    simp only [Bool.and_eq_true, decide_eq_true_eq] at h2
    exact ⟨i, f, hf, h2.1, h2.2⟩
theorem own_ : ownKnob Tryd.prog.godebug = none := by kernel_rfl
theorem laidOut_ : laidOutB Tryd.prog = true := by kernel_rfl
theorem cells_int : Tryd.prog.cellsOf 3 = 1 := by kernel_rfl
theorem cells_Pt : Tryd.prog.cellsOf 26 = 3 := by kernel_rfl
theorem cells_Bx : Tryd.prog.cellsOf 28 = 6 := by kernel_rfl
theorem cells_St : Tryd.prog.cellsOf 24 = 4 := by kernel_rfl
theorem cells_Lk : Tryd.prog.cellsOf 52 = 9 := by kernel_rfl
theorem cells_Ed : Tryd.prog.cellsOf 30 = 17 := by kernel_rfl
theorem cells_Ch : Tryd.prog.cellsOf 54 = 5 := by kernel_rfl
theorem ints_int_ : IntsT Tryd.prog 3 := ints_int Tryd.underlying3 (by kernel_rfl)
theorem ints_Pt : IntsT Tryd.prog 26 := by
  refine ints_struct Tryd.underlying26 (fun i f h => ?_) (fun j hj => ?_)
  · match i, h with
    | 0, h => injection h with h; subst h; exact ints_int_
    | 1, h => injection h with h; subst h; exact ints_int_
    | 2, h => injection h with h; subst h; exact ints_int_
    | i + 3, h => simp at h
  · exact cover_of (by kernel_rfl) j hj
theorem ints_Bx : IntsT Tryd.prog 28 := by
  refine ints_struct Tryd.underlying28 (fun i f h => ?_) (fun j hj => ?_)
  · match i, h with
    | 0, h => injection h with h; subst h; exact ints_Pt
    | 1, h => injection h with h; subst h; exact ints_Pt
    | i + 2, h => simp at h
  · exact cover_of (by kernel_rfl) j hj
theorem ints_St : IntsT Tryd.prog 24 := by
  refine ints_struct Tryd.underlying24 (fun i f h => ?_) (fun j hj => ?_)
  · match i, h with
    | 0, h => injection h with h; subst h; exact ints_int_
    | 1, h => injection h with h; subst h; exact ints_int_
    | 2, h => injection h with h; subst h; exact ints_int_
    | 3, h => injection h with h; subst h; exact ints_int_
    | i + 4, h => simp at h
  · exact cover_of (by kernel_rfl) j hj
theorem ints_Lk : IntsT Tryd.prog 52 := by
  refine ints_struct Tryd.underlying52 (fun i f h => ?_) (fun j hj => ?_)
  · match i, h with
    | 0, h => injection h with h; subst h; exact ints_int_
    | 1, h => injection h with h; subst h; exact ints_int_
    | 2, h => injection h with h; subst h; exact ints_int_
    | 3, h => injection h with h; subst h; exact ints_Bx
    | i + 4, h => simp at h
  · exact cover_of (by kernel_rfl) j hj
theorem ints_Ed : IntsT Tryd.prog 30 := by
  refine ints_struct Tryd.underlying30 (fun i f h => ?_) (fun j hj => ?_)
  · match i, h with
    | 0, h => injection h with h; subst h; exact ints_St
    | 1, h => injection h with h; subst h; exact ints_int_
    | 2, h => injection h with h; subst h; exact ints_Bx
    | 3, h => injection h with h; subst h; exact ints_Pt
    | 4, h => injection h with h; subst h; exact ints_int_
    | 5, h => injection h with h; subst h; exact ints_int_
    | 6, h => injection h with h; subst h; exact ints_int_
    | i + 7, h => simp at h
  · exact cover_of (by kernel_rfl) j hj
theorem ints_Ch : IntsT Tryd.prog 54 := by
  refine ints_struct Tryd.underlying54 (fun i f h => ?_) (fun j hj => ?_)
  · match i, h with
    | 0, h => injection h with h; subst h; exact ints_Pt
    | 1, h => injection h with h; subst h; exact ints_int_
    | 2, h => injection h with h; subst h; exact ints_int_
    | i + 3, h => simp at h
  · exact cover_of (by kernel_rfl) j hj
def Ed.cells (x : Ed) : List Value := [.int .i64 x.st.tick, .int .i64 x.st.clock, .int .i64 x.st.site, .int .i64 x.st.seq, .int .i64 x.kind, .int .i64 x.box.lo.x, .int .i64 x.box.lo.y, .int .i64 x.box.lo.z, .int .i64 x.box.hi.x, .int .i64 x.box.hi.y, .int .i64 x.box.hi.z, .int .i64 x.at_.x, .int .i64 x.at_.y, .int .i64 x.at_.z, .int .i64 x.turn, .int .i64 x.cell, .int .i64 x.size]
def rowsE (xs : List Ed) : List (List Value) := xs.map Ed.cells
def fits64 (n : Int) : Prop := -9223372036854775808 ≤ n ∧ n ≤ 9223372036854775807
set_option maxRecDepth 100000 in
theorem read_locks {H : Type} {enc : TypeId × Value → H} {W : World} {base : Nat} {r : Reach} {v : Value} {d : DataW H} {ps : List MemPlace}
    (hv : Value.okWide Tryd.prog W r base 22 v) (h : DataW.Trod enc Tryd.prog W 0 (fun _ => true) true 22 v d ps) :
    ∃ (A : Option Addr) (c : Nat) (l : List Lk), v = .slice A l.length c ∧ Sv W W.heap.size 9 A c (rowsL l) := by
  obtain ⟨A, c, ls, rfl, hs, hl⟩ := read_rows Tryd.underlying22 cells_Lk (by decide) ints_Lk hv h
  obtain ⟨l, hll⟩ : ∃ l : List Lk, ls.map (fun l => l.map (Value.int .i64)) = rowsL l := by
    clear hs hv h
    induction ls with
    | nil => exact ⟨[], rfl⟩
    | cons x xs ih =>
      obtain ⟨l, hl'⟩ := ih (fun y hy => hl y (List.mem_cons_of_mem _ hy))
      obtain ⟨h3, h4⟩ := hl x (List.mem_cons_self ..)
      match x, h3, h4 with
      | [a0, a1, a2, a3, a4, a5, a6, a7, a8], _, h4 => exact ⟨⟨a0, a1, a2, ⟨⟨a3, a4, a5⟩, ⟨a6, a7, a8⟩⟩⟩ :: l, by unfold rowsL at hl' ⊢; simp only [List.map_cons, hl']; rfl⟩
  rw [hll] at hs
  have hlen := congrArg List.length hll
  unfold rowsL at hlen
  simp only [List.length_map] at hlen
  exact ⟨A, c, l, by rw [hlen], hs.sv⟩
set_option maxRecDepth 100000 in
theorem read_changes {H : Type} {enc : TypeId × Value → H} {W : World} {base : Nat} {r : Reach} {v : Value} {d : DataW H} {ps : List MemPlace}
    (hv : Value.okWide Tryd.prog W r base 31 v) (h : DataW.Trod enc Tryd.prog W 0 (fun _ => true) true 31 v d ps) :
    ∃ (A : Option Addr) (c : Nat) (l : List Chg), v = .slice A l.length c ∧ Sv W W.heap.size 5 A c (rowsC l) := by
  obtain ⟨A, c, ls, rfl, hs, hl⟩ := read_rows Tryd.underlying31 cells_Ch (by decide) ints_Ch hv h
  obtain ⟨l, hll⟩ : ∃ l : List Chg, ls.map (fun l => l.map (Value.int .i64)) = rowsC l := by
    clear hs hv h
    induction ls with
    | nil => exact ⟨[], rfl⟩
    | cons x xs ih =>
      obtain ⟨l, hl'⟩ := ih (fun y hy => hl y (List.mem_cons_of_mem _ hy))
      obtain ⟨h3, h4⟩ := hl x (List.mem_cons_self ..)
      match x, h3, h4 with
      | [a0, a1, a2, a3, a4], _, h4 => exact ⟨⟨⟨a0, a1, a2⟩, a3, a4⟩ :: l, by unfold rowsC at hl' ⊢; simp only [List.map_cons, hl']; rfl⟩
  rw [hll] at hs
  have hlen := congrArg List.length hll
  unfold rowsC at hlen
  simp only [List.length_map] at hlen
  exact ⟨A, c, l, by rw [hlen], hs.sv⟩
set_option maxRecDepth 100000 in
theorem read_edits {H : Type} {enc : TypeId × Value → H} {W : World} {base : Nat} {r : Reach} {v : Value} {d : DataW H} {ps : List MemPlace}
    (hv : Value.okWide Tryd.prog W r base 44 v) (h : DataW.Trod enc Tryd.prog W 0 (fun _ => true) true 44 v d ps) :
    ∃ (A : Option Addr) (c : Nat) (l : List Ed), v = .slice A l.length c ∧ Sv W W.heap.size 17 A c (rowsE l) ∧ ∀ y, y ∈ l → fits y := by
  obtain ⟨A, c, ls, rfl, hs, hl⟩ := read_rows Tryd.underlying44 cells_Ed (by decide) ints_Ed hv h
  obtain ⟨l, hll, hfit⟩ : ∃ l : List Ed, ls.map (fun l => l.map (Value.int .i64)) = rowsE l ∧ ∀ y, y ∈ l → fits y := by
    clear hs hv h
    induction ls with
    | nil => exact ⟨[], rfl, by simp⟩
    | cons x xs ih =>
      obtain ⟨l, hl', hfit⟩ := ih (fun y hy => hl y (List.mem_cons_of_mem _ hy))
      obtain ⟨h3, h4⟩ := hl x (List.mem_cons_self ..)
      match x, h3, h4 with
      | [a0, a1, a2, a3, a4, a5, a6, a7, a8, a9, a10, a11, a12, a13, a14, a15, a16], _, h4 => exact ⟨⟨⟨a0, a1, a2, a3⟩, a4, ⟨⟨a5, a6, a7⟩, ⟨a8, a9, a10⟩⟩, ⟨a11, a12, a13⟩, a14, a15, a16⟩ :: l, by unfold rowsE at hl' ⊢; simp only [List.map_cons, hl']; rfl, fun y hy => by
        rcases List.mem_cons.1 hy with rfl | hy
        · exact ⟨(wf_bounds (h4 a8 (by simp))).2, (wf_bounds (h4 a9 (by simp))).2, (wf_bounds (h4 a10 (by simp))).2⟩
        · exact hfit y hy⟩
  rw [hll] at hs
  have hlen := congrArg List.length hll
  unfold rowsE at hlen
  simp only [List.length_map] at hlen
  exact ⟨A, c, l, by rw [hlen], hs.sv, hfit⟩
set_option maxRecDepth 100000 in
theorem read_Pt {H : Type} {enc : TypeId × Value → H} {W : World} {base : Nat} {r : Reach} {v : Value} {d : DataW H} {ps : List MemPlace}
    (hv : Value.okWide Tryd.prog W r base 26 v) (h : DataW.Trod enc Tryd.prog W 0 (fun _ => true) true 26 v d ps) : ∃ x : Pt, v = .agg #[.int .i64 x.x, .int .i64 x.y, .int .i64 x.z] := by
  obtain ⟨l, rfl, hl, hw⟩ := read_struct Tryd.underlying26 ints_Pt hv h
  rw [cells_Pt] at hl
  match l, hl, hw with
  | [a0, a1, a2], _, hw => exact ⟨⟨a0, a1, a2⟩, rfl⟩
set_option maxRecDepth 100000 in
theorem read_Ed {H : Type} {enc : TypeId × Value → H} {W : World} {base : Nat} {r : Reach} {v : Value} {d : DataW H} {ps : List MemPlace}
    (hv : Value.okWide Tryd.prog W r base 30 v) (h : DataW.Trod enc Tryd.prog W 0 (fun _ => true) true 30 v d ps) : ∃ x : Ed, v = .agg #[.int .i64 x.st.tick, .int .i64 x.st.clock, .int .i64 x.st.site, .int .i64 x.st.seq, .int .i64 x.kind, .int .i64 x.box.lo.x, .int .i64 x.box.lo.y, .int .i64 x.box.lo.z, .int .i64 x.box.hi.x, .int .i64 x.box.hi.y, .int .i64 x.box.hi.z, .int .i64 x.at_.x, .int .i64 x.at_.y, .int .i64 x.at_.z, .int .i64 x.turn, .int .i64 x.cell, .int .i64 x.size] ∧ fits x ∧ (-9223372036854775808 ≤ x.st.tick ∧ x.st.tick ≤ 9223372036854775807) := by
  obtain ⟨l, rfl, hl, hw⟩ := read_struct Tryd.underlying30 ints_Ed hv h
  rw [cells_Ed] at hl
  match l, hl, hw with
  | [a0, a1, a2, a3, a4, a5, a6, a7, a8, a9, a10, a11, a12, a13, a14, a15, a16], _, hw => exact ⟨⟨⟨a0, a1, a2, a3⟩, a4, ⟨⟨a5, a6, a7⟩, ⟨a8, a9, a10⟩⟩, ⟨a11, a12, a13⟩, a14, a15, a16⟩, rfl, ⟨(wf_bounds (hw a8 (by simp))).2, (wf_bounds (hw a9 (by simp))).2, (wf_bounds (hw a10 (by simp))).2⟩, wf_bounds (hw a0 (by simp))⟩
end Go.Proofs.YtjceebpafnnffaaDoor

namespace Go.Proofs.YtjceebpafnnffaaDoor
open Go Go.RowKit Go.ChangeShapes Go.WideShapes Go.ChangeAt

section
variable {P : Program} {H : Type} {enc : TypeId × Value → H} {w : World} {spare : Nat → Bool} {held : Bool} {n : Nat}
theorem int_at {t : TypeId} (ht : P.underlying t = some (.int .i64)) {cs : List Value} {off : Nat} {v : Int} {p : List MemPlace} (h : DataW.trod enc P w 0 spare held n t ((cs.drop off).take 1) = some (.lit (.int .i64 v), p)) : cs[off]? = some (.int .i64 v) := by
  obtain ⟨k, e1, e2, _⟩ := DataW.trod_int ht h
  injection e2 with e2 _
  injection e2 with e2
  injection e2 with _ e2
  subst e2
  have h1 : ((cs.drop off).take 1)[0]? = some (.int .i64 v) := by rw [e1]; rfl
  rw [List.getElem?_take, if_pos (by decide), List.getElem?_drop] at h1
  exact h1
theorem part_at {ds : List (DataW H)} {xs : List (DataW H × List MemPlace)} {p : List MemPlace} {q : List MemPlace} (hx : ((DataW.agg ds, p) : DataW H × List MemPlace) = (.agg (xs.map (·.1)), q)) {i : Nat} {d : DataW H} (hd : ds[i]? = some d) : ∃ r, xs[i]? = some (d, r) := by
  injection hx with hx _
  injection hx with hx
  subst hx
  rw [List.getElem?_map] at hd
  obtain ⟨x, hx, rfl⟩ := Option.map_eq_some_iff.1 hd
  exact ⟨x.2, hx⟩
end
theorem pt_at {H : Type} {enc : TypeId × Value → H} {w : World} {spare : Nat → Bool} {held : Bool} {n : Nat} {cs : List Value} {a b c : Int} {p : List MemPlace} (h : DataW.trod enc Tryd.prog w 0 spare held n 26 cs = some (.agg [.lit (.int .i64 a), .lit (.int .i64 b), .lit (.int .i64 c)], p)) :
    cs[0]? = some (.int .i64 a) ∧ cs[1]? = some (.int .i64 b) ∧ cs[2]? = some (.int .i64 c) := by
  obtain ⟨xs, m, _, hx, _, _, hg⟩ := DataW.trod_struct Tryd.underlying26 h
  obtain ⟨r0, h0⟩ := part_at hx (i := 0) rfl
  obtain ⟨r1, h1⟩ := part_at hx (i := 1) rfl
  obtain ⟨r2, h2⟩ := part_at hx (i := 2) rfl
  have c1 : Tryd.prog.cellsOf 3 = 1 := by kernel_rfl
  have g0 : DataW.trod enc Tryd.prog w 0 spare held m 3 ((cs.drop 0).take (Tryd.prog.cellsOf 3)) = xs[0]? := hg 0 _ rfl
  have g1 : DataW.trod enc Tryd.prog w 0 spare held m 3 ((cs.drop 1).take (Tryd.prog.cellsOf 3)) = xs[1]? := hg 1 _ rfl
  have g2 : DataW.trod enc Tryd.prog w 0 spare held m 3 ((cs.drop 2).take (Tryd.prog.cellsOf 3)) = xs[2]? := hg 2 _ rfl
  rw [h0] at g0; rw [h1] at g1; rw [h2] at g2
  rw [c1] at g0 g1 g2
  exact ⟨int_at Tryd.underlying3 g0, int_at Tryd.underlying3 g1, int_at Tryd.underlying3 g2⟩
theorem gWorld : Tryd.prog.globalNamed "voxel/lock.world" = some 0 := by kernel_rfl
theorem gRows : Tryd.prog.globalNamed "voxel/edit.rows" = some 1 := by kernel_rfl
theorem tWorld : (Tryd.prog.globals[0]?).map (·.type) = some 28 := by kernel_rfl
def laidL : List (String × DataW Unit) := [("voxel/edit.rows", Rows.laid_voxel_edit_rows), ("voxel/lock.world", Rows.laid_voxel_lock_world)]
set_option maxRecDepth 100000 in
theorem world_of {W : World} {cs : Array Value} {f : Nat} {p : List MemPlace} {enc : TypeId × Value → Unit} {spare : Nat → Bool} {held : Bool} (hv : W.var? Tryd.prog "voxel/lock.world" = some cs) (hd : DataW.trod enc Tryd.prog W 0 spare held f 28 cs.toList = some (Rows.laid_voxel_lock_world, p)) : WorldIn W := by
  obtain ⟨xs, m, _, hx, _, _, hg⟩ := DataW.trod_struct Tryd.underlying28 hd
  obtain ⟨r0, h0⟩ := part_at hx (i := 0) rfl
  obtain ⟨r1, h1⟩ := part_at hx (i := 1) rfl
  have g0 : DataW.trod enc Tryd.prog W 0 spare held m 26 ((cs.toList.drop 0).take (Tryd.prog.cellsOf 26)) = xs[0]? := hg 0 _ rfl
  have g1 : DataW.trod enc Tryd.prog W 0 spare held m 26 ((cs.toList.drop 3).take (Tryd.prog.cellsOf 26)) = xs[1]? := hg 1 _ rfl
  rw [h0] at g0; rw [h1] at g1
  obtain ⟨a0, a1, a2⟩ := pt_at (a := 0) (b := 0) (c := 0) g0
  obtain ⟨b0, b1, b2⟩ := pt_at (a := 16384) (b := 16384) (c := 16384) g1
  clear hg g0 g1 h0 h1 hx hd
  have c3 : Tryd.prog.cellsOf 26 = 3 := by kernel_rfl
  rw [c3] at a0 a1 a2 b0 b1 b2
  have e : ∀ (o j : Nat) (v : Value), j < 3 → ((cs.toList.drop o).take 3)[j]? = some v → cs[o + j]? = some v := fun o j v hj h => by
    rw [List.getElem?_take, if_pos hj, List.getElem?_drop, Array.getElem?_toList] at h
    exact h
  have a0 : cs[0]? = some (.int .i64 0) := e 0 0 (.int .i64 0) (by decide) a0
  have a1 : cs[1]? = some (.int .i64 0) := e 0 1 (.int .i64 0) (by decide) a1
  have a2 : cs[2]? = some (.int .i64 0) := e 0 2 (.int .i64 0) (by decide) a2
  have b0 : cs[3]? = some (.int .i64 16384) := e 3 0 (.int .i64 16384) (by decide) b0
  have b1 : cs[4]? = some (.int .i64 16384) := e 3 1 (.int .i64 16384) (by decide) b1
  have b2 : cs[5]? = some (.int .i64 16384) := e 3 2 (.int .i64 16384) (by decide) b2
  have key : ∀ (j : Nat) (v : Value), ([.int .i64 worldB.lo.x, .int .i64 worldB.lo.y, .int .i64 worldB.lo.z, .int .i64 worldB.hi.x, .int .i64 worldB.hi.y, .int .i64 worldB.hi.z] : List Value)[j]? = some v → W.cell? ⟨0, j, none⟩ = some v := by
    intro j v hj
    rw [World.var?_cell gWorld hv j]
    match j, hj with
    | 0, hj => injection hj with hj; subst hj; exact a0
    | 1, hj => injection hj with hj; subst hj; exact a1
    | 2, hj => injection hj with hj; subst hj; exact a2
    | 3, hj => injection hj with hj; subst hj; exact b0
    | 4, hj => injection hj with hj; subst hj; exact b1
    | 5, hj => injection hj with hj; subst hj; exact b2
    | j + 6, hj => simp at hj
  exact ⟨key, World.block_lt_of_cell? W _ (key 0 _ rfl)⟩
theorem rows_of {W : World} {cs : Array Value} {f : Nat} {p : List MemPlace} {enc : TypeId × Value → Unit} {spare : Nat → Bool} {held : Bool} (hv : W.var? Tryd.prog "voxel/edit.rows" = some cs) (hd : DataW.trod enc Tryd.prog W 0 spare held f 98 cs.toList = some (Rows.laid_voxel_edit_rows, p)) : RowsIn W := by
  obtain ⟨xs, m, _, hx, _, _, hg⟩ := DataW.trod_array Tryd.underlying98 hd
  have c2 : Tryd.prog.cellsOf 97 = 2 := by kernel_rfl
  have c1 : Tryd.prog.cellsOf 3 = 1 := by kernel_rfl
  rw [c2] at hg
  have key : ∀ i, i < 9 → W.cell? ⟨1, 2 * i + 1, none⟩ = some (.int .i64 (rowF i)) := by
    intro i hi
    have hpart : ∃ s r, xs[i]? = some (.agg [.lit (.string s), .lit (.int .i64 (rowF i))], r) := by
      match i, hi with
      | 0, _ => exact ⟨_, part_at hx (i := 0) rfl⟩
      | 1, _ => exact ⟨_, part_at hx (i := 1) rfl⟩
      | 2, _ => exact ⟨_, part_at hx (i := 2) rfl⟩
      | 3, _ => exact ⟨_, part_at hx (i := 3) rfl⟩
      | 4, _ => exact ⟨_, part_at hx (i := 4) rfl⟩
      | 5, _ => exact ⟨_, part_at hx (i := 5) rfl⟩
      | 6, _ => exact ⟨_, part_at hx (i := 6) rfl⟩
      | 7, _ => exact ⟨_, part_at hx (i := 7) rfl⟩
      | 8, _ => exact ⟨_, part_at hx (i := 8) rfl⟩
      | i + 9, h => omega
    obtain ⟨s, r, hp⟩ := hpart
    have g := hg i hi
    rw [hp] at g
    obtain ⟨ys, k, _, hy, _, _, hf⟩ := DataW.trod_struct Tryd.underlying97 g
    obtain ⟨r1, h1⟩ := part_at hy (i := 1) rfl
    have f1 : DataW.trod enc Tryd.prog W 0 spare held k 3 ((((cs.toList.drop (i * 2)).take 2).drop 1).take (Tryd.prog.cellsOf 3)) = ys[1]? := hf 1 _ rfl
    rw [h1, c1] at f1
    have q := int_at Tryd.underlying3 f1
    rw [List.getElem?_take, if_pos (by decide), List.getElem?_drop, Array.getElem?_toList] at q
    rw [World.var?_cell gRows hv (2 * i + 1), show 2 * i + 1 = i * 2 + 1 by omega]
    exact q
  exact ⟨key, World.block_lt_of_cell? W _ (key 0 (by decide))⟩
theorem laid_of {W : World} (h : laidMetH Tryd.prog laidL W) : Laid W := by
  rw [MakeChecks.laidMetH_plain _ _ _ (by kernel_rfl)] at h
  obtain ⟨ps, ⟨g0, t0, cs0, f0, p0, q0, hg0, ht0, hv0, hd0, ⟨g1, t1, cs1, f1, p1, q1, hg1, ht1, hv1, hd1, _, _⟩, _⟩, _, _⟩ := h
  obtain rfl := Option.some.inj (gRows.symm.trans hg0)
  obtain rfl := Option.some.inj (gWorld.symm.trans hg1)
  obtain rfl := Option.some.inj ((show (Tryd.prog.globals[1]?).map (·.type) = some 98 by kernel_rfl).symm.trans ht0)
  obtain rfl := Option.some.inj (tWorld.symm.trans ht1)
  exact ⟨rows_of hv0 hd0, world_of hv1 hd1⟩
end Go.Proofs.YtjceebpafnnffaaDoor
