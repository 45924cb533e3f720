/- YtcfebfblmmbeaaaDoorInt · YtcfebfblmmbeaaaDoorPtS · YtcfebfblmmbeaaaDoorCo · YtcfebfblmmbeaaaDoorCc · YtcfebfblmmbeaaaDoorCn · YtcfebfblmmbeaaaDoorCs · YtcfebfblmmbeaaaDoorCe · YtcfebfblmmbeaaaDoorCf · YtcfebfblmmbeaaaDoorSo · DERIVED: THE SHELF's CONTRACTS AT THIS DUMP, IN PLAIN WORDS (tools/lay-plain.mjs out of 'YtcfebfblmmbeaaaDoorSh.lean', which tools/lay-shelf.mjs wrote): THE SAME DECLARATIONS UNDER THE SAME NAMES: 'import', 'namespace', 'open', 'def', 'theorem' AND NOTHING ELSE: no command of the shelf's: FOR A HAND-IN. Each laying: the table of numbers ('.._ren') and one theorem, a field a fact of the dump's own or the kernel's comparison; each contract: ONE APPLICATION. · YtcfebfblmmbeaaaDoorSrt · YtcfebfblmmbeaaaDoorMr -/
import Derived.Deep.DeepCutAuto
import Derived.Lib.AppendZeros
import Derived.Shelf.SlSortCmp.NoneTotal
import Derived.Shelf.SlSortCmp.QuietGrown
import Derived.Shelf.SlicesQ.Contains
import Derived.Shelf.SlicesQ.Equal
import Derived.Shelf.SlicesE.Clone
import Derived.Ground.SlsfProg
import Derived.Ground.SlgqProg
import Derived.Ground.SlgnProg
import Derived.Shelf.SlGeneric
import Derived.Test.YtcfebfblmmbeaaaDoorProg
import Derived.Maps.RangeWalk
import Derived.Test.YtcfebfblmmbeaaaDoorZa3
/- Slices of ints; cmp.Or at any number of them. -/
namespace Go.Proofs.YtcfebfblmmbeaaaDoor
open Go Go.RowKit

def rowsI (l : List Int) : List (List Value) := l.map fun x => [.int .i64 x]
theorem rowsI_length (l : List Int) : (rowsI l).length = l.length := by simp [rowsI]
theorem rowsI_rwk (l : List Int) : Rwk 1 (rowsI l) := fun x hx => by
  obtain ⟨p, _, rfl⟩ := List.mem_map.1 hx
  exact ⟨rfl, fun u hu => by simp at hu; subst hu; rfl⟩
theorem int_row {w : World} {B c j : Nat} {A : Option Addr} {l : List Int} {v : Int} (h : Sv w B 1 A c (rowsI l)) (hp : l[j]? = some v) :
    ∃ b off, A = some ⟨b, off, none⟩ ∧ b < B ∧ w.cell? ⟨b, off + j, none⟩ = some (.int .i64 v) := by
  obtain ⟨b, off, e, hb, hr⟩ := h.row (i := j) (x := [.int .i64 v]) (by simp [rowsI, hp])
  have h0 := hr 0 _ rfl
  simp only [Nat.mul_one, Nat.add_zero] at h0
  exact ⟨b, off, e, hb, h0⟩
theorem infoInt : (Tryd.prog.info? 3).map (fun i => (i.zero, i.size, i.bytes)) = some (some (.int .i64 0), 1, 8) := by kernel_rfl
/-- The first number that is not 0. -/
def orL : List Int → Int
  | [] => 0
  | x :: l => orI x (orL l)
theorem orL_zero {l : List Int} (h : ∀ x, x ∈ l → x = 0) : orL l = 0 := by
  induction l with
  | nil => rfl
  | cons x l ih => rw [orL, h x (List.mem_cons_self ..), ih fun y hy => h y (List.mem_cons_of_mem _ hy)]; rfl
theorem orL_at {l : List Int} {j : Nat} {x : Int} (h : ∀ (i : Nat) (y : Int), i < j → l[i]? = some y → y = 0) (hx : l[j]? = some x) (h0 : x ≠ 0) : orL l = x := by
  induction l generalizing j with
  | nil => simp at hx
  | cons y l ih =>
    cases j with
    | zero => simp at hx; subst hx; rw [orL]; unfold orI; rw [if_neg h0]
    | succ j =>
      rw [orL, h 0 y (by omega) rfl]
      unfold orI
      rw [if_pos rfl]
      exact ih (j := j) (fun i z hi hz => h (i + 1) z (by omega) (by simpa using hz)) (by simpa using hx)
set_option maxHeartbeats 1000000 in
theorem Or_any (A : Option Addr) (c : Nat) (l : List Int) (B : Nat) (w : World) (hs : Sv w B 1 A c (rowsI l)) (_hB : B ≤ w.heap.size) :
    Calls Tryd.prog 57 #[.slice A l.length c] w fun e w' => e = .returned (.int .i64 (orL l)) ∧ w = w' := by
  have hln := hs.len
  rw [rowsI_length] at hln
  have HS := Lib.hid hs; clear hs
  go_enter Tryd.func57, Tryd.ntmps57
  go_wp2
  go_loop [8] (fun i => ∃ k : Nat, k ≤ l.length ∧ i = .int .i64 k ∧ ∀ (i : Nat) (y : Int), i < k → l[i]? = some y → y = 0) (fun i => l.length - (intOf i).toNat)
  case atStart => exact ⟨0, Nat.zero_le _, rfl, fun i y hi => by omega⟩
  case round =>
    obtain ⟨k, hk, rfl, hg⟩ := hrel
    have HG := Lib.hid hg; clear hg
    by_cases hlt : k < l.length
    · obtain ⟨x, hx⟩ : ∃ x, l[k]? = some x := ⟨_, List.getElem?_eq_getElem hlt⟩
      obtain ⟨b, off, rfl, hb, h0⟩ := int_row HS.out hx
      have HX := Lib.hid hx; clear hx
      by_cases hz : x = 0
      · have hz2 : (x != 0) = false := by simpa using hz
        have HG2 := Lib.hid (fun (i : Nat) (y : Int) (hi : i < k + 1) (hy : l[i]? = some y) => (show y = 0 from by
          rcases Nat.lt_succ_iff_lt_or_eq.1 hi with h1 | rfl
          · exact HG.out i y h1 hy
          · rw [HX.out] at hy; injection hy with hy; rw [← hy]; exact hz))
        subst hz
        go_wp2
        go_round
        case rel => exact ⟨k + 1, by omega, by go_num, HG2.out⟩
        case measure => simp [intOf]; omega
      · have hz2 : (x != 0) = true := by simpa using hz
        have HO := Lib.hid (orL_at HG.out HX.out hz)
        clear hz
        go_wp2
        go_ret
        exact ⟨ret_int HO.out.symm, rfl⟩
    · obtain rfl : k = l.length := by omega
      have HO := Lib.hid (orL_zero (l := l) fun x hx => by
        obtain ⟨i, hi⟩ := List.getElem?_of_mem hx
        exact HG.out i x (List.getElem?_eq_some_iff.1 hi).1 hi)
      go_wp2
      go_ret
      exact ⟨ret_int HO.out.symm, rfl⟩
end Go.Proofs.YtcfebfblmmbeaaaDoor

/- Slices of points. -/
namespace Go.Proofs.YtcfebfblmmbeaaaDoor
open Go Go.RowKit

def rowsP (l : List Pt) : List (List Value) := l.map Pt.cells
theorem rowsP_length (l : List Pt) : (rowsP l).length = l.length := by simp [rowsP]
theorem rowsP_rwk (l : List Pt) : Rwk 3 (rowsP l) := fun x hx => by
  obtain ⟨p, _, rfl⟩ := List.mem_map.1 hx
  exact ⟨rfl, fun u hu => by simp [Pt.cells] at hu; rcases hu with rfl | rfl | rfl <;> rfl⟩
theorem rowsP_flat (l : List Pt) : (rowsP l).flatten.length = l.length * 3 := by rw [flatten_length _ (rowsP_rwk l).len, rowsP_length]
theorem rowsP_append (a b : List Pt) : rowsP (a ++ b) = rowsP a ++ rowsP b := by simp [rowsP]
theorem rowsP_take (l : List Pt) (i : Nat) : rowsP (l.take i) = (rowsP l).take i := by simp [rowsP, List.map_take]
theorem rowsP_drop (l : List Pt) (i : Nat) : rowsP (l.drop i) = (rowsP l).drop i := by simp [rowsP, List.map_drop]
/-- Row j of a slice of points. -/
theorem pt_row {w : World} {B c j : Nat} {A : Option Addr} {l : List Pt} {p : Pt} (h : Sv w B 3 A c (rowsP l)) (hp : l[j]? = some p) :
    ∃ b off, A = some ⟨b, off, none⟩ ∧ b < B ∧ w.cell? ⟨b, off + j * 3, none⟩ = some (.int .i64 p.x) ∧ w.cell? ⟨b, off + j * 3 + 1, none⟩ = some (.int .i64 p.y) ∧ w.cell? ⟨b, off + j * 3 + 2, none⟩ = some (.int .i64 p.z) := by
  obtain ⟨b, off, e, hb, hr⟩ := h.row (i := j) (x := p.cells) (by simp [rowsP, hp])
  exact ⟨b, off, e, hb, hr 0 _ rfl, hr 1 _ rfl, hr 2 _ rfl⟩
end Go.Proofs.YtcfebfblmmbeaaaDoor

/- edit.coordinates. -/
namespace Go.Proofs.YtcfebfblmmbeaaaDoor
open Go Go.RowKit

theorem info_parts {i : Option TypeInfo} {z : Value} {n b : Nat} (h : i.map (fun i => (i.zero, i.size, i.bytes)) = some (some z, n, b)) : ∃ i0, i = some i0 ∧ i0.zero = some z ∧ i0.size = n ∧ i0.bytes = b := by
  cases i with
  | none => cases h
  | some i0 => simp at h; exact ⟨i0, rfl, h.1, h.2.1, h.2.2⟩
def coordsL (l : List Pt) : List Int := l.flatMap fun p => [p.x, p.y, p.z]
theorem coordsL_length (l : List Pt) : (coordsL l).length = 3 * l.length := by
  induction l with
  | nil => rfl
  | cons p l ih => simp only [coordsL, List.flatMap_cons, List.length_append, List.length_cons, List.length_nil] at ih ⊢; omega
theorem coordsL_snoc (l : List Pt) (p : Pt) : coordsL (l ++ [p]) = coordsL l ++ [p.x, p.y, p.z] := by simp [coordsL]
theorem rowsI_append (a b : List Int) : rowsI (a ++ b) = rowsI a ++ rowsI b := by simp [rowsI]
theorem rowsI_flat (l : List Int) : (rowsI l).flatten = l.map (Value.int .i64) := by
  induction l with
  | nil => rfl
  | cons x l ih => unfold rowsI at *; simp only [List.map_cons, List.flatten_cons]; rw [ih]; rfl
theorem sv_new (w : World) (l : List Int) (h : l.length ≤ 1000) : Sv (w.alloc (.cells (l.map (Value.int .i64)).toArray 3)) (w.alloc (.cells (l.map (Value.int .i64)).toArray 3)).heap.size 1 (some ⟨w.heap.size, 0, none⟩) l.length (rowsI l) :=
  ⟨by rw [rowsI_length]; exact Nat.le_refl _, by unfold maxLen; omega, rowsI_rwk _, fun _ => ⟨w.heap.size, 0, rfl, by simp, fun j u hu => by
    rw [Nat.zero_add, cell_of_row _ _ _ _ _ _ (heap_alloc_new w _)]
    rw [rowsI_flat] at hu
    simpa using hu⟩⟩
/-- It hands back a row of ints of its own. -/
def RetI (l : List Int) (w : World) (en : Ending) (w' : World) : Prop :=
  ∃ v, en = .returned v ∧ w'.ownsRow w.heap.size 3 1 v l.length (rowsI l).flatten ∧ ExtD w w'
set_option maxRecDepth 100000 in
set_option maxHeartbeats 4000000 in
theorem coordinates_any (A : Option Addr) (c : Nat) (l : List Pt) (w : World) (hs : Sv w w.heap.size 3 A c (rowsP l)) (hb : l.length ≤ 1000) :
    Calls Tryd.prog 96 #[.slice A l.length c] w (RetI (coordsL l) w) := by
  obtain ⟨i0, hi, hz0, hz1, hz2⟩ := info_parts infoInt
  have HI := Lib.hid hi; have HZ := Lib.hid hz0; have HZ1 := Lib.hid hz1; have HZ2 := Lib.hid hz2; clear hi hz0 hz1 hz2
  have HS := Lib.hid hs; clear hs
  have hln : l.length ≤ 9223372036854775807 := by omega
  go_enter Tryd.func96, Tryd.ntmps96
  go_wp2
  go_loopw [3, 8] (fun ov i wr => ∃ k n3 : Nat, i = .int .i64 k ∧ n3 = 3 * k ∧ k ≤ l.length ∧ wr.ownsRow w.heap.size 3 1 ov n3 (rowsI (coordsL (l.take k))).flatten ∧ ExtD w wr) (fun _ i _ => l.length - (intOf i).toNat)
  case atStart => exact ⟨0, 0, rfl, rfl, Nat.zero_le _, World.ownsRow_nil _ _ _ _, ExtD.refl _⟩
  case round =>
    obtain ⟨k, n3, rfl, hn3, hk, ho, hx⟩ := hrel
    have HO := Lib.hid ho; have HX := Lib.hid hx; have HN := Lib.hid hn3
    obtain ⟨A1, c1, rfl, _⟩ := own_form ho
    clear ho hn3
    by_cases hlt : k < l.length
    · obtain ⟨p, hp⟩ : ∃ p, l[k]? = some p := ⟨_, List.getElem?_eq_getElem hlt⟩
      obtain ⟨b, off, rfl, hbl, r0, r1, r2⟩ := pt_row HS.out hp
      have r0 := (hx.ext.cell (p := ⟨b, off + k * 3, none⟩) hbl).trans r0
      have r1 := (hx.ext.cell (p := ⟨b, off + k * 3 + 1, none⟩) hbl).trans r1
      have r2 := (hx.ext.cell (p := ⟨b, off + k * 3 + 2, none⟩) hbl).trans r2
      have hbl := Nat.lt_of_lt_of_le hbl hx.ext.size
      have htk : l.take (k + 1) = l.take k ++ [p] := by obtain ⟨hi, rfl⟩ := List.getElem?_eq_some_iff.1 hp; exact List.take_succ_eq_append_getElem hi
      have HT := Lib.hid htk
      clear hp htk hx
      go_upto_region 5 with (first | (refine wpList_store_blk 28 (.tmp 5) (.tmp 11) rfl rfl (Arr.new wr 28 [.int .i64 0, .int .i64 0, .int .i64 0]) [.int .i64 p.x, .int .i64 p.y, .int .i64 p.z] rfl rfl (by kernel_rfl) rfl rfl ?_))
      have hB := (Arr.new wr 28 [.int .i64 0, .int .i64 0, .int .i64 0]).setRow [.int .i64 p.x, .int .i64 p.y, .int .i64 p.z]
      have hx1 : ExtD wr ((wr.alloc (.cells ([.int .i64 0, .int .i64 0, .int .i64 0] : List Value).toArray 28)).setRow wr.heap.size ([.int .i64 p.x, .int .i64 p.y, .int .i64 p.z] : List Value).toArray) := ((ExtD.refl wr).alloc _).setRow (Nat.le_refl _) _
      obtain ⟨bb, hbb⟩ : ∃ bb, bb = wr.heap.size := ⟨_, rfl⟩
      obtain ⟨W1, hW⟩ : ∃ W, W = (wr.alloc (.cells ([.int .i64 0, .int .i64 0, .int .i64 0] : List Value).toArray 28)).setRow wr.heap.size ([.int .i64 p.x, .int .i64 p.y, .int .i64 p.z] : List Value).toArray := ⟨_, rfl⟩
      have hW' : W1 = (wr.alloc (.cells #[.int .i64 0, .int .i64 0, .int .i64 0] 28)).setRow wr.heap.size #[.int .i64 p.x, .int .i64 p.y, .int .i64 p.z] := hW
      rw [← hW] at hB hx1
      rw [← hbb] at hB
      rw [← hW', ← hbb]
      have HX1 := Lib.hid hx1
      have d0 := hB.cell 0
      have d1 := hB.cell 1
      have d2 := hB.cell 2
      have db := hB.lt
      simp only [List.getElem?_cons_zero, List.getElem?_cons_succ] at d0 d1 d2
      clear hW hW' hbb hB hx1 r0 r1 r2 hbl
      have hx2 : ExtD W1 (W1.alloc (.cells (([p.x, p.y, p.z] : List Int).map (Value.int .i64)).toArray 3)) := (ExtD.refl W1).alloc _
      have HSN := Lib.hid (sv_new W1 [p.x, p.y, p.z] (by simp))
      have HON := Lib.hid (own_ext HO.out (HX1.out.trans hx2).ext)
      have HX2 := Lib.hid ((HX.out.trans HX1.out).trans hx2)
      clear hx2
      go_wp2_with (first
        | (refine wpList_buildRow rfl 80 3 19 rfl 1 (by decide) (by decide) ([.int .i64 p.x, .int .i64 p.y, .int .i64 p.z]) rfl rfl Tryd.underlying80 (by kernel_rfl) (by kernel_rfl) ?_)
        | (at_builtin; refine wpList_append_svD rfl (.tmp 12) (.tmp 19) 80 rfl w.heap.size 3 i0 (.int .i64 0) 1 8 Tryd.underlying80 HI.out HZ.out HZ1.out HZ2.out rfl (by decide) _ n3 _ rfl HON.out _ _ 3 3 (rowsI [p.x, p.y, p.z]) rfl HSN.out rfl (by have := HN.out; unfold maxLen; omega) (by have := HN.out; omega) HX2.out.ext.size ?_))
      intro v2 w2 g1 g2 _ g4
      have HO2 := Lib.hid (show w2.ownsRow w.heap.size 3 1 v2 (n3 + 3) (rowsI (coordsL (List.take (k + 1) l))).flatten from by rw [HT.out, coordsL_snoc, rowsI_append, List.flatten_append]; exact g1)
      have HX3 := Lib.hid (HX2.out.own HON.out g2 g4 (Nat.le_refl _))
      clear g1 g2 g4
      go_wp2
      go_roundw
      case rel => exact ⟨k + 1, n3 + 3, by go_num, by have := HN.out; omega, by omega, HO2.out, HX3.out⟩
      case measure => simp [intOf]; omega
    · obtain rfl : k = l.length := by omega
      clear hx
      go_wp2
      go_ret
      refine ⟨_, rfl, ?_, HX.out⟩
      have h := HO.out
      rw [List.take_length] at h
      have e := HN.out
      rw [← coordsL_length] at e
      rw [← e]
      exact h
end Go.Proofs.YtcfebfblmmbeaaaDoor

/- slices.Grow of a nil slice of ints, slices.Concat of slices of ints. -/
namespace Go.Proofs.YtcfebfblmmbeaaaDoor
open Go Go.RowKit

set_option maxHeartbeats 2000000 in
theorem Grow_any (n : Nat) (h0 : 0 < n) (hn : n ≤ 100000) (w : World) :
    Calls Tryd.prog 101 #[.slice none 0 0, .int .i64 n] w fun e w' => ∃ v, e = .returned v ∧ w'.ownsRow w.heap.size 3 1 v 0 [] ∧ ExtD w w' := by
  obtain ⟨i0, hi, hz0, hz1, hz2⟩ := info_parts infoInt
  have hcge := grownCap_ge w n 0 3
  have hcle := grownCap_le_maxLen w n 0 3 (by unfold maxLen; omega)
  have hrun := fun ty => Lib.run_append_nil_zeros (P := Tryd.prog) w 80 3 ty 3 i0 (.int .i64 0) .i64 .i64 Tryd.underlying80 Tryd.underlying3 hi hz0 n h0 (by omega) (by omega) (by rw [hz2]; omega)
  generalize hcap : grownCap w n 0 3 = cap at hcge hcle hrun
  obtain ⟨cs, hcs⟩ : ∃ cs, cs = Builtin.zeroCells (Value.int .i64 0).cells n ++ Builtin.zeroCells (Value.int .i64 0).cells (cap - n) := ⟨_, rfl⟩
  have hsz : cs.size = cap := by rw [hcs]; simp [Builtin.zeroCells, Value.cells]; omega
  rw [← hcs] at hrun
  have HO := Lib.hid (show (w.drew.alloc (.cells cs 3)).ownsRow w.heap.size 3 1 (.slice (some ⟨w.heap.size, 0, none⟩) 0 cap) 0 [] from own_of_cur (cur := cs.toList) (Nat.le_refl _) (by simpa using heap_alloc_new w.drew (.cells cs 3)) (Nat.zero_le _) hcle (by simp [hsz]) (by simp))
  have HX := Lib.hid (show ExtD w (w.drew.alloc (.cells cs 3)) from ((ExtD.refl w).drew).alloc _)
  have HRUN := Lib.hid hrun
  have hm : cap ≤ 9223372036854775807 := by unfold maxLen at hcle; omega
  clear hrun hcs hcap hsz hi hz0 hz1 hz2 hcle
  go_enter Tryd.func101, Tryd.ntmps101
  go_wp2_with (at_builtin; refine Lib.wpList_append_run _ rfl (.tmp 20) (.tmp 21) 80 3 rfl _ _ rfl rfl _ _ (HRUN.out _) ?_)
  go_ret
  exact ⟨_, rfl, HO.out, HX.out⟩
theorem Grow_zero (w : World) :
    Calls Tryd.prog 101 #[.slice none 0 0, .int .i64 0] w fun e w' => ∃ v, e = .returned v ∧ w'.ownsRow w.heap.size 3 1 v 0 [] ∧ ExtD w w' := by
  go_enter Tryd.func101, Tryd.ntmps101
  go_wp2
  go_ret
  exact ⟨_, rfl, World.ownsRow_nil _ _ _ _, ExtD.refl _⟩
/-- A slice of slices of ints. -/
structure SvI (w : World) (B : Nat) (A : Option Addr) (c : Nat) (vs : List Value) (ls : List (List Int)) : Prop where
  out : Sv w B 1 A c (vs.map ([·]))
  len : vs.length = ls.length
  each : ∀ (i : Nat) (v : Value) (l : List Int), vs[i]? = some v → ls[i]? = some l → ∃ A' c', v = .slice A' l.length c' ∧ Sv w B 1 A' c' (rowsI l)
theorem SvI.keep {w w' : World} {B : Nat} {A : Option Addr} {c : Nat} {vs : List Value} {ls : List (List Int)} (h : SvI w B A c vs ls) (hk : ∀ p : Addr, p.block < B → w'.cell? p = w.cell? p) : SvI w' B A c vs ls :=
  ⟨h.out.keep hk, h.len, fun i v p hv hp => by obtain ⟨A', c', e, hs⟩ := h.each i v p hv hp; exact ⟨A', c', e, hs.keep hk⟩⟩
theorem SvI.row {w : World} {B : Nat} {A : Option Addr} {c : Nat} {vs : List Value} {ls : List (List Int)} (h : SvI w B A c vs ls) {i : Nat} {l : List Int} (hp : ls[i]? = some l) : ∃ b off A' c', A = some ⟨b, off, none⟩ ∧ b < B ∧ w.cell? ⟨b, off + i, none⟩ = some (.slice A' l.length c') ∧ Sv w B 1 A' c' (rowsI l) := by
  have hi : i < vs.length := by rw [h.len]; exact (List.getElem?_eq_some_iff.1 hp).1
  obtain ⟨v, hv⟩ : ∃ v, vs[i]? = some v := ⟨_, List.getElem?_eq_getElem hi⟩
  obtain ⟨A', c', rfl, hs⟩ := h.each i v l hv hp
  obtain ⟨b, off, hA, hb, hr⟩ := h.out.row (i := i) (x := [.slice A' l.length c']) (by rw [List.getElem?_map, hv]; rfl)
  refine ⟨b, off, A', c', hA, hb, ?_, hs⟩
  have := hr 0 (.slice A' l.length c') rfl
  simpa using this
def lenI (ls : List (List Int)) (k : Nat) : Nat := (ls.take k).flatten.length
theorem lenI_succ (ls : List (List Int)) {i : Nat} {r : List Int} (h : ls[i]? = some r) : lenI ls (i + 1) = lenI ls i + r.length := by
  obtain ⟨hi, rfl⟩ := List.getElem?_eq_some_iff.1 h
  unfold lenI
  rw [List.take_add_one, List.getElem?_eq_getElem hi, List.flatten_append, List.length_append]
  simp
theorem lenI_all (ls : List (List Int)) : lenI ls ls.length = ls.flatten.length := by unfold lenI; rw [List.take_length]
theorem lenI_le (ls : List (List Int)) (k : Nat) : lenI ls k ≤ ls.flatten.length := by
  unfold lenI
  conv => rhs; rw [← List.take_append_drop k ls, List.flatten_append, List.length_append]
  omega
theorem flatI_succ (ls : List (List Int)) {i : Nat} {r : List Int} (h : ls[i]? = some r) : (ls.take (i + 1)).flatten = (ls.take i).flatten ++ r := by
  obtain ⟨hi, rfl⟩ := List.getElem?_eq_some_iff.1 h
  rw [List.take_add_one, List.getElem?_eq_getElem hi, List.flatten_append]
  simp
set_option maxRecDepth 100000 in
set_option maxHeartbeats 4000000 in
theorem Concat_any (A : Option Addr) (c : Nat) (vs : List Value) (ls : List (List Int)) (w : World) (hs : SvI w w.heap.size A c vs ls) (hb : ls.flatten.length ≤ 100000) :
    Calls Tryd.prog 95 #[.slice A ls.length c] w (RetI ls.flatten w) := by
  obtain ⟨i0, hi, hz0, hz1, hz2⟩ := info_parts infoInt
  have HI := Lib.hid hi; have HZ := Lib.hid hz0; have HZ1 := Lib.hid hz1; have HZ2 := Lib.hid hz2; clear hi hz0 hz1 hz2
  have hln : ls.length ≤ 9223372036854775807 := by have h := hs.out.len; rw [List.length_map, hs.len] at h; exact h
  have HS := Lib.hid hs; clear hs
  have HB := Lib.hid hb; clear hb
  go_enter Tryd.func95, Tryd.ntmps95
  go_wp2
  go_loopw [3, 11] (fun nv i wr => ∃ k n : Nat, nv = .int .i64 n ∧ i = .int .i64 k ∧ k ≤ ls.length ∧ n = lenI ls k ∧ w = wr) (fun _ i _ => ls.length - (intOf i).toNat)
  case atStart => exact ⟨0, 0, rfl, rfl, Nat.zero_le _, rfl, rfl⟩
  case round =>
    obtain ⟨k, n, rfl, rfl, hk, hn, rfl⟩ := hrel
    have HN := Lib.hid hn
    have hnl : n ≤ 100000 := by have h1 := lenI_le ls k; have h2 := HB.out; omega
    clear hn
    by_cases hlt : k < ls.length
    · obtain ⟨r, hr⟩ : ∃ r, ls[k]? = some r := ⟨_, List.getElem?_eq_getElem hlt⟩
      obtain ⟨b, off, A', c', rfl, hbl, r0, hsv⟩ := HS.out.row hr
      have hrl : n + r.length ≤ 100000 := by have h1 := lenI_le ls (k + 1); have h2 := HB.out; rw [lenI_succ ls hr] at h1; have := HN.out; omega
      have HN2 := Lib.hid (show n + r.length = lenI ls (k + 1) by rw [lenI_succ ls hr, HN.out])
      have hng : ¬ ((n : Int) + r.length < 0) := by omega
      clear hr hsv
      go_wp2
      go_roundw
      case rel => exact ⟨k + 1, n + r.length, by go_num, by go_num, by omega, HN2.out, by first | rfl | trivial⟩
      case measure => simp [intOf]; omega
    · obtain rfl : k = ls.length := by omega
      have HGR := Lib.hid (show Calls Tryd.prog 101 #[.slice none 0 0, .int .i64 n] w fun e w' => ∃ v, e = .returned v ∧ w'.ownsRow w.heap.size 3 1 v 0 [] ∧ ExtD w w' from by
        rcases Nat.eq_zero_or_pos n with rfl | h0
        · exact Grow_zero w
        · exact Grow_any n h0 hnl w)
      go_wp2_with (go_at_call 101; refine HGR.out.mono ?_; rintro e w1 ⟨v1, rfl, ho, hx⟩)
      go_loopw [6, 27] (fun ov i w2 => ∃ k n2 : Nat, i = .int .i64 k ∧ k ≤ ls.length ∧ n2 = lenI ls k ∧ w2.ownsRow w.heap.size 3 1 ov n2 (rowsI (ls.take k).flatten).flatten ∧ ExtD w w2) (fun _ i _ => ls.length - (intOf i).toNat)
      case atStart => exact ⟨0, 0, rfl, Nat.zero_le _, rfl, ho, hx⟩
      case round =>
        obtain ⟨k, n2, rfl, hk2, hn2, ho2, hx2⟩ := hrel
        have HO := Lib.hid ho2; have HX := Lib.hid hx2; have HN2 := Lib.hid hn2
        obtain ⟨A1, c1, rfl, _⟩ := own_form ho2
        clear ho2 hn2 ho hx
        by_cases hlt2 : k < ls.length
        · obtain ⟨r, hr⟩ : ∃ r, ls[k]? = some r := ⟨_, List.getElem?_eq_getElem hlt2⟩
          obtain ⟨b, off, A', c', rfl, hbl, r0, hsv⟩ := (HS.out.keep (fun p hp => hx2.ext.cell hp)).row hr
          have HSV := Lib.hid hsv
          have hrl : n2 + r.length ≤ 100000 := by have h1 := lenI_le ls (k + 1); have h2 := HB.out; rw [lenI_succ ls hr] at h1; have := HN2.out; omega
          have HN3 := Lib.hid (show n2 + r.length = lenI ls (k + 1) by rw [lenI_succ ls hr, HN2.out])
          have HF := Lib.hid (flatI_succ ls hr)
          have hbl := Nat.lt_of_lt_of_le hbl hx2.ext.size
          clear hr hsv hx2
          go_wp2_with (at_builtin; refine wpList_append_svD rfl (.tmp 31) (.tmp 32) 80 rfl w.heap.size 3 i0 (.int .i64 0) 1 8 Tryd.underlying80 HI.out HZ.out HZ1.out HZ2.out rfl (by decide) _ n2 _ rfl HO.out _ A' r.length c' (rowsI r) rfl HSV.out (rowsI_length _) (by unfold maxLen; omega) (by omega) HX.out.ext.size ?_)
          intro v2 w3 g1 g2 _ g4
          have HO2 := Lib.hid (show w3.ownsRow w.heap.size 3 1 v2 (n2 + r.length) (rowsI (ls.take (k + 1)).flatten).flatten from by rw [HF.out, rowsI_append, List.flatten_append]; exact g1)
          have HX3 := Lib.hid (HX.out.own HO.out g2 g4 (Nat.le_refl _))
          clear g1 g2 g4 r0
          go_wp2
          go_roundw
          case rel => exact ⟨k + 1, n2 + r.length, by go_num, by omega, HN3.out, HO2.out, HX3.out⟩
          case measure => simp [intOf]; omega
        · obtain rfl : k = ls.length := by omega
          clear hx2
          go_wp2
          go_ret
          refine ⟨_, rfl, ?_, HX.out⟩
          have h := HO.out
          have e := HN2.out
          rw [List.take_length] at h
          rw [lenI_all] at e
          rw [← e]
          exact h
end Go.Proofs.YtcfebfblmmbeaaaDoor

/- edit.numbers. -/
namespace Go.Proofs.YtcfebfblmmbeaaaDoor
open Go Go.RowKit

theorem SvI.more {w : World} {B B' : Nat} {A : Option Addr} {c : Nat} {vs : List Value} {ls : List (List Int)} (h : SvI w B A c vs ls) (hB : B ≤ B') : SvI w B' A c vs ls :=
  ⟨h.out.more hB, h.len, fun i v p hv hp => by obtain ⟨A', c', e, hs⟩ := h.each i v p hv hp; exact ⟨A', c', e, hs.more hB⟩⟩
theorem SvI.ext {w w' : World} {A : Option Addr} {c : Nat} {vs : List Value} {ls : List (List Int)} (h : SvI w w.heap.size A c vs ls) (hx : Ext w w') : SvI w' w'.heap.size A c vs ls := (h.keep fun _ hp => hx.cell hp).more hx.size
theorem sv_newP (w : World) (l : List Pt) (h : l.length ≤ 1000) : Sv (w.alloc (.cells (rowsP l).flatten.toArray 28)) (w.alloc (.cells (rowsP l).flatten.toArray 28)).heap.size 3 (some ⟨w.heap.size, 0, none⟩) l.length (rowsP l) :=
  ⟨by rw [rowsP_length]; exact Nat.le_refl _, by unfold maxLen; omega, rowsP_rwk _, fun _ => ⟨w.heap.size, 0, rfl, by simp, fun j u hu => by
    rw [Nat.zero_add, cell_of_row _ _ _ _ _ _ (heap_alloc_new w _)]
    simpa using hu⟩⟩
theorem flat_ones (vs : List Value) : (vs.map ([·])).flatten = vs := by
  induction vs with
  | nil => rfl
  | cons x vs ih => simp only [List.map_cons, List.flatten_cons]; rw [ih]; rfl
theorem svI_new (w : World) (vs : List Value) (ls : List (List Int)) (h : ls.length ≤ 1000) (hl : vs.length = ls.length) (h1 : ∀ v, v ∈ vs → v.oneCell' = true) (hv : ∀ (i : Nat) (v : Value) (l : List Int), vs[i]? = some v → ls[i]? = some l → ∃ A' c', v = .slice A' l.length c' ∧ Sv w w.heap.size 1 A' c' (rowsI l)) :
    SvI (w.alloc (.cells vs.toArray 80)) (w.alloc (.cells vs.toArray 80)).heap.size (some ⟨w.heap.size, 0, none⟩) ls.length vs ls := by
  refine ⟨⟨by simp [hl], by unfold maxLen; omega, fun x hx => ?_, fun _ => ⟨w.heap.size, 0, rfl, by simp, fun j u hu => ?_⟩⟩, hl, fun i v l hv1 hl1 => ?_⟩
  · obtain ⟨y, hy, rfl⟩ := List.mem_map.1 hx
    exact ⟨rfl, fun u hu => by simp at hu; subst hu; exact h1 _ hy⟩
  · rw [Nat.zero_add, cell_of_row _ _ _ _ _ _ (heap_alloc_new w _)]
    rw [flat_ones] at hu
    simpa using hu
  · obtain ⟨A', c', e, hs⟩ := hv i v l hv1 hl1
    exact ⟨A', c', e, hs.ext ((Ext.refl w).alloc _)⟩
theorem numsE_flat (x : Ed) : [[x.st.tick, x.st.clock, x.st.site, x.st.seq, x.kind], coordsL [x.box.lo, x.box.hi, x.at_], [x.turn, x.cell, x.size]].flatten = numsE x := rfl
set_option maxRecDepth 100000 in
set_option maxHeartbeats 8000000 in
theorem numbers_any (x : Ed) (w : World) :
    Calls Tryd.prog 80 #[.agg #[.int .i64 x.st.tick, .int .i64 x.st.clock, .int .i64 x.st.site, .int .i64 x.st.seq, .int .i64 x.kind, .int .i64 x.box.lo.x, .int .i64 x.box.lo.y, .int .i64 x.box.lo.z, .int .i64 x.box.hi.x, .int .i64 x.box.hi.y, .int .i64 x.box.hi.z, .int .i64 x.at_.x, .int .i64 x.at_.y, .int .i64 x.at_.z, .int .i64 x.turn, .int .i64 x.cell, .int .i64 x.size]] w fun e w' => ∃ A c, e = .returned (.slice A 17 c) ∧ Sv w' w'.heap.size 1 A c (rowsI (numsE x)) ∧ ExtD w w' := by
  have hm := mixed
  go_enter Tryd.func80, Tryd.ntmps80
  go_upto_region 1 with fail
  have B0 := Arr.new w 32 [.int .i64 x.st.tick, .int .i64 x.st.clock, .int .i64 x.st.site, .int .i64 x.st.seq, .int .i64 x.kind, .int .i64 x.box.lo.x, .int .i64 x.box.lo.y, .int .i64 x.box.lo.z, .int .i64 x.box.hi.x, .int .i64 x.box.hi.y, .int .i64 x.box.hi.z, .int .i64 x.at_.x, .int .i64 x.at_.y, .int .i64 x.at_.z, .int .i64 x.turn, .int .i64 x.cell, .int .i64 x.size]
  have hx0 : ExtD w (w.alloc (.cells #[.int .i64 x.st.tick, .int .i64 x.st.clock, .int .i64 x.st.site, .int .i64 x.st.seq, .int .i64 x.kind, .int .i64 x.box.lo.x, .int .i64 x.box.lo.y, .int .i64 x.box.lo.z, .int .i64 x.box.hi.x, .int .i64 x.box.hi.y, .int .i64 x.box.hi.z, .int .i64 x.at_.x, .int .i64 x.at_.y, .int .i64 x.at_.z, .int .i64 x.turn, .int .i64 x.cell, .int .i64 x.size] 32)) := (ExtD.refl w).alloc _
  have hs0 : (w.alloc (.cells #[.int .i64 x.st.tick, .int .i64 x.st.clock, .int .i64 x.st.site, .int .i64 x.st.seq, .int .i64 x.kind, .int .i64 x.box.lo.x, .int .i64 x.box.lo.y, .int .i64 x.box.lo.z, .int .i64 x.box.hi.x, .int .i64 x.box.hi.y, .int .i64 x.box.hi.z, .int .i64 x.at_.x, .int .i64 x.at_.y, .int .i64 x.at_.z, .int .i64 x.turn, .int .i64 x.cell, .int .i64 x.size] 32)).heap.size = w.heap.size + 1 := World.size_alloc_ _ _
  obtain ⟨W0, hW⟩ : ∃ W, W = w.alloc (.cells #[.int .i64 x.st.tick, .int .i64 x.st.clock, .int .i64 x.st.site, .int .i64 x.st.seq, .int .i64 x.kind, .int .i64 x.box.lo.x, .int .i64 x.box.lo.y, .int .i64 x.box.lo.z, .int .i64 x.box.hi.x, .int .i64 x.box.hi.y, .int .i64 x.box.hi.z, .int .i64 x.at_.x, .int .i64 x.at_.y, .int .i64 x.at_.z, .int .i64 x.turn, .int .i64 x.cell, .int .i64 x.size] 32) := ⟨_, rfl⟩
  rw [← hW] at hx0 hs0
  have B0 : Arr W0 w.heap.size 32 [.int .i64 x.st.tick, .int .i64 x.st.clock, .int .i64 x.st.site, .int .i64 x.st.seq, .int .i64 x.kind, .int .i64 x.box.lo.x, .int .i64 x.box.lo.y, .int .i64 x.box.lo.z, .int .i64 x.box.hi.x, .int .i64 x.box.hi.y, .int .i64 x.box.hi.z, .int .i64 x.at_.x, .int .i64 x.at_.y, .int .i64 x.at_.z, .int .i64 x.turn, .int .i64 x.cell, .int .i64 x.size] := by rw [hW]; exact B0
  rw [← hW]
  clear hW
  have HB0 := Lib.hid B0; have HX0 := Lib.hid hx0; have HSZ := Lib.hid hs0
  clear B0 hx0 hs0
  go_upto_region 2 with (first
    | (refine wpList_load_part 26 (.tmp 4) rfl rfl HB0.out 0 [.int .i64 x.st.tick, .int .i64 x.st.clock, .int .i64 x.st.site, .int .i64 x.st.seq] rfl rfl _ Tryd.underlying26 rfl (by kernel_rfl) ?_)
    | (refine wpList_store_blk 26 (.tmp 3) (.tmp 5) rfl rfl (Arr.new W0 26 [.int .i64 0, .int .i64 0, .int .i64 0, .int .i64 0]) [.int .i64 x.st.tick, .int .i64 x.st.clock, .int .i64 x.st.site, .int .i64 x.st.seq] rfl rfl (by kernel_rfl) rfl rfl ?_))
  have hB1 := (Arr.new W0 26 [.int .i64 0, .int .i64 0, .int .i64 0, .int .i64 0]).setRow [.int .i64 x.st.tick, .int .i64 x.st.clock, .int .i64 x.st.site, .int .i64 x.st.seq]
  have hx1 : ExtD W0 ((W0.alloc (.cells ([.int .i64 0, .int .i64 0, .int .i64 0, .int .i64 0] : List Value).toArray 26)).setRow W0.heap.size ([.int .i64 x.st.tick, .int .i64 x.st.clock, .int .i64 x.st.site, .int .i64 x.st.seq] : List Value).toArray) := ((ExtD.refl W0).alloc _).setRow (Nat.le_refl _) _
  obtain ⟨W1, hW⟩ : ∃ W, W = (W0.alloc (.cells ([.int .i64 0, .int .i64 0, .int .i64 0, .int .i64 0] : List Value).toArray 26)).setRow W0.heap.size ([.int .i64 x.st.tick, .int .i64 x.st.clock, .int .i64 x.st.site, .int .i64 x.st.seq] : List Value).toArray := ⟨_, rfl⟩
  have hW' : W1 = (W0.alloc (.cells #[.int .i64 0, .int .i64 0, .int .i64 0, .int .i64 0] 26)).setRow W0.heap.size #[.int .i64 x.st.tick, .int .i64 x.st.clock, .int .i64 x.st.site, .int .i64 x.st.seq] := hW
  rw [← hW] at hB1 hx1
  rw [← hW']
  clear hW hW'
  rw [HSZ.out] at hB1
  have HB0 := Lib.hid (HB0.out.ext hx1.ext); have HB1 := Lib.hid hB1; have HX1 := Lib.hid (HX0.out.trans hx1)
  clear hB1 hx1
  (try rw [HSZ.out])
  refine wp_region_relD (w := W1) (fun i v w' => match i with
      | 0 => v = .pointer (some ⟨w.heap.size + 1, 0, none⟩)
      | 1 => v = .int .i64 x.st.tick
      | 2 => v = .pointer (some ⟨w.heap.size + 1, 1, none⟩)
      | 3 => v = .int .i64 x.st.clock
      | 4 => v = .pointer (some ⟨w.heap.size + 1, 2, none⟩)
      | 5 => v = .int .i64 x.st.site
      | 6 => v = .pointer (some ⟨w.heap.size + 1, 3, none⟩)
      | 7 => v = .int .i64 x.st.seq
      | 8 => v = .pointer (some ⟨w.heap.size, 4, none⟩)
      | 9 => v = .int .i64 x.kind
      | 10 => ∃ b, v = .slice (some ⟨b, 0, none⟩) 5 5 ∧ Sv w' w'.heap.size 1 (some ⟨b, 0, none⟩) 5 (rowsI [x.st.tick, x.st.clock, x.st.site, x.st.seq, x.kind])
      | 11 => v = .pointer (some ⟨w.heap.size, 5, none⟩)
      | 12 => v = .pointer (some ⟨w.heap.size, 5, none⟩)
      | 13 => v = .agg #[.int .i64 x.box.lo.x, .int .i64 x.box.lo.y, .int .i64 x.box.lo.z]
      | 14 => v = .pointer (some ⟨w.heap.size, 5, none⟩)
      | 15 => v = .pointer (some ⟨w.heap.size, 8, none⟩)
      | 16 => v = .agg #[.int .i64 x.box.hi.x, .int .i64 x.box.hi.y, .int .i64 x.box.hi.z]
      | 17 => v = .pointer (some ⟨w.heap.size, 11, none⟩)
      | 18 => v = .agg #[.int .i64 x.at_.x, .int .i64 x.at_.y, .int .i64 x.at_.z]
      | 19 => ∃ b, v = .slice (some ⟨b, 0, none⟩) 3 3 ∧ Sv w' w'.heap.size 3 (some ⟨b, 0, none⟩) 3 (rowsP [x.box.lo, x.box.hi, x.at_])
      | 20 => ∃ A' c', v = .slice A' 9 c' ∧ Sv w' w'.heap.size 1 A' c' (rowsI (coordsL [x.box.lo, x.box.hi, x.at_]))
      | 21 => v = .pointer (some ⟨w.heap.size, 14, none⟩)
      | 22 => v = .int .i64 x.turn
      | 23 => v = .pointer (some ⟨w.heap.size, 15, none⟩)
      | 24 => v = .int .i64 x.cell
      | 25 => v = .pointer (some ⟨w.heap.size, 16, none⟩)
      | 26 => v = .int .i64 x.size
      | 27 => ∃ b, v = .slice (some ⟨b, 0, none⟩) 3 3 ∧ Sv w' w'.heap.size 1 (some ⟨b, 0, none⟩) 3 (rowsI [x.turn, x.cell, x.size])
      | 28 => ∃ b vs, v = .slice (some ⟨b, 0, none⟩) 3 3 ∧ SvI w' w'.heap.size (some ⟨b, 0, none⟩) 3 vs [[x.st.tick, x.st.clock, x.st.site, x.st.seq, x.kind], coordsL [x.box.lo, x.box.hi, x.at_], [x.turn, x.cell, x.size]]
      | 29 => ∃ A' c', v = .slice A' 17 c' ∧ Sv w' w'.heap.size 1 A' c' (rowsI (numsE x))
      | 30 => ∃ A' c', v = .slice A' 17 c' ∧ Sv w' w'.heap.size 1 A' c' (rowsI (numsE x))
      | _ => True) hm (by kernel_rfl) (by kernel_rfl) rfl ?_ ?_ ?_
  · intro i v w1 w2 hx h
    match i, h with
    | 0, h => exact h
    | 1, h => exact h
    | 2, h => exact h
    | 3, h => exact h
    | 4, h => exact h
    | 5, h => exact h
    | 6, h => exact h
    | 7, h => exact h
    | 8, h => exact h
    | 9, h => exact h
    | 10, h => exact (by obtain ⟨b, k1, k2⟩ := h; exact ⟨b, k1, k2.ext hx⟩)
    | 11, h => exact h
    | 12, h => exact h
    | 13, h => exact h
    | 14, h => exact h
    | 15, h => exact h
    | 16, h => exact h
    | 17, h => exact h
    | 18, h => exact h
    | 19, h => exact (by obtain ⟨b, k1, k2⟩ := h; exact ⟨b, k1, k2.ext hx⟩)
    | 20, h => exact (by obtain ⟨A', c', k1, k2⟩ := h; exact ⟨A', c', k1, k2.ext hx⟩)
    | 21, h => exact h
    | 22, h => exact h
    | 23, h => exact h
    | 24, h => exact h
    | 25, h => exact h
    | 26, h => exact h
    | 27, h => exact (by obtain ⟨b, k1, k2⟩ := h; exact ⟨b, k1, k2.ext hx⟩)
    | 28, h => exact (by obtain ⟨b, vs, k1, k2⟩ := h; exact ⟨b, vs, k1, k2.ext hx⟩)
    | 29, h => exact (by obtain ⟨A', c', k1, k2⟩ := h; exact ⟨A', c', k1, k2.ext hx⟩)
    | 30, h => exact (by obtain ⟨A', c', k1, k2⟩ := h; exact ⟨A', c', k1, k2.ext hx⟩)
    | i + 31, h => exact trivial
  · intro i o ho b w1 hx hmiss hdep K hK
    match i, ho with
    | 0, ho =>
      obtain rfl := Option.some.inj ho
      refine want_none rfl ?_
      have e3 : b.tmps[3]? = some (.pointer (some ⟨w.heap.size + 1, 0, none⟩)) := hmiss 3 rfl
      exact op_run (by unfold execOp; simp [e3, Act.eval, go_sem]) (hK _ w1 (ExtD.refl _) rfl)
    | 1, ho =>
      obtain rfl := Option.some.inj ho
      refine want_none rfl ?_
      obtain ⟨v6, g6, e6⟩ := hdep 0 rfl
      have g6 : v6 = .pointer (some ⟨w.heap.size + 1, 0, none⟩) := g6
      subst g6
      have e6 := e6 6 rfl
      have d0 := (HB1.out.ext hx.ext).cell 0
      have dl := (HB1.out.ext hx.ext).lt
      simp only [List.getElem?_cons_zero] at d0
      exact op_run (by unfold execOp; simp [e6, Act.eval, go_sem, d0]) (hK _ w1 (ExtD.refl _) rfl)
    | 2, ho =>
      obtain rfl := Option.some.inj ho
      refine want_none rfl ?_
      have e3 : b.tmps[3]? = some (.pointer (some ⟨w.heap.size + 1, 0, none⟩)) := hmiss 3 rfl
      exact op_run (by unfold execOp; simp [e3, Act.eval, go_sem]) (hK _ w1 (ExtD.refl _) rfl)
    | 3, ho =>
      obtain rfl := Option.some.inj ho
      refine want_none rfl ?_
      obtain ⟨v8, g8, e8⟩ := hdep 2 rfl
      have g8 : v8 = .pointer (some ⟨w.heap.size + 1, 1, none⟩) := g8
      subst g8
      have e8 := e8 8 rfl
      have d1 := (HB1.out.ext hx.ext).cell 1
      have dl := (HB1.out.ext hx.ext).lt
      simp only [List.getElem?_cons_zero, List.getElem?_cons_succ] at d1
      exact op_run (by unfold execOp; simp [e8, Act.eval, go_sem, d1]) (hK _ w1 (ExtD.refl _) rfl)
    | 4, ho =>
      obtain rfl := Option.some.inj ho
      refine want_none rfl ?_
      have e3 : b.tmps[3]? = some (.pointer (some ⟨w.heap.size + 1, 0, none⟩)) := hmiss 3 rfl
      exact op_run (by unfold execOp; simp [e3, Act.eval, go_sem]) (hK _ w1 (ExtD.refl _) rfl)
    | 5, ho =>
      obtain rfl := Option.some.inj ho
      refine want_none rfl ?_
      obtain ⟨v10, g10, e10⟩ := hdep 4 rfl
      have g10 : v10 = .pointer (some ⟨w.heap.size + 1, 2, none⟩) := g10
      subst g10
      have e10 := e10 10 rfl
      have d2 := (HB1.out.ext hx.ext).cell 2
      have dl := (HB1.out.ext hx.ext).lt
      simp only [List.getElem?_cons_zero, List.getElem?_cons_succ] at d2
      exact op_run (by unfold execOp; simp [e10, Act.eval, go_sem, d2]) (hK _ w1 (ExtD.refl _) rfl)
    | 6, ho =>
      obtain rfl := Option.some.inj ho
      refine want_none rfl ?_
      have e3 : b.tmps[3]? = some (.pointer (some ⟨w.heap.size + 1, 0, none⟩)) := hmiss 3 rfl
      exact op_run (by unfold execOp; simp [e3, Act.eval, go_sem]) (hK _ w1 (ExtD.refl _) rfl)
    | 7, ho =>
      obtain rfl := Option.some.inj ho
      refine want_none rfl ?_
      obtain ⟨v12, g12, e12⟩ := hdep 6 rfl
      have g12 : v12 = .pointer (some ⟨w.heap.size + 1, 3, none⟩) := g12
      subst g12
      have e12 := e12 12 rfl
      have d3 := (HB1.out.ext hx.ext).cell 3
      have dl := (HB1.out.ext hx.ext).lt
      simp only [List.getElem?_cons_zero, List.getElem?_cons_succ] at d3
      exact op_run (by unfold execOp; simp [e12, Act.eval, go_sem, d3]) (hK _ w1 (ExtD.refl _) rfl)
    | 8, ho =>
      obtain rfl := Option.some.inj ho
      refine want_none rfl ?_
      have e1 : b.tmps[1]? = some (.pointer (some ⟨w.heap.size, 0, none⟩)) := hmiss 1 rfl
      exact op_run (by unfold execOp; simp [e1, Act.eval, go_sem]) (hK _ w1 (ExtD.refl _) rfl)
    | 9, ho =>
      obtain rfl := Option.some.inj ho
      refine want_none rfl ?_
      obtain ⟨v14, g14, e14⟩ := hdep 8 rfl
      have g14 : v14 = .pointer (some ⟨w.heap.size, 4, none⟩) := g14
      subst g14
      have e14 := e14 14 rfl
      have d4 := (HB0.out.ext hx.ext).cell 4
      have dl := (HB0.out.ext hx.ext).lt
      simp only [List.getElem?_cons_zero, List.getElem?_cons_succ] at d4
      exact op_run (by unfold execOp; simp [e14, Act.eval, go_sem, d4]) (hK _ w1 (ExtD.refl _) rfl)
    | 10, ho =>
      obtain rfl := Option.some.inj ho
      refine want_none rfl ?_
      obtain ⟨v7, g7, e7⟩ := hdep 1 rfl
      have g7 : v7 = .int .i64 x.st.tick := g7
      subst g7
      have e7 := e7 7 rfl
      obtain ⟨v9, g9, e9⟩ := hdep 3 rfl
      have g9 : v9 = .int .i64 x.st.clock := g9
      subst g9
      have e9 := e9 9 rfl
      obtain ⟨v11, g11, e11⟩ := hdep 5 rfl
      have g11 : v11 = .int .i64 x.st.site := g11
      subst g11
      have e11 := e11 11 rfl
      obtain ⟨v13, g13, e13⟩ := hdep 7 rfl
      have g13 : v13 = .int .i64 x.st.seq := g13
      subst g13
      have e13 := e13 13 rfl
      obtain ⟨v15, g15, e15⟩ := hdep 9 rfl
      have g15 : v15 = .int .i64 x.kind := g15
      subst g15
      have e15 := e15 15 rfl
      exact op_run (v := .slice (some ⟨w1.heap.size, 0, none⟩) 5 5) (w2 := w1.alloc (.cells (([x.st.tick, x.st.clock, x.st.site, x.st.seq, x.kind] : List Int).map (Value.int .i64)).toArray 3)) (by unfold execOp; simp [e7, e9, e11, e13, e15, Act.eval, go_sem]) (hK _ _ ((ExtD.refl w1).alloc _) ⟨_, rfl, sv_new w1 [x.st.tick, x.st.clock, x.st.site, x.st.seq, x.kind] (by simp)⟩)
    | 11, ho =>
      obtain rfl := Option.some.inj ho
      refine want_none rfl ?_
      have e1 : b.tmps[1]? = some (.pointer (some ⟨w.heap.size, 0, none⟩)) := hmiss 1 rfl
      exact op_run (by unfold execOp; simp [e1, Act.eval, go_sem]) (hK _ w1 (ExtD.refl _) rfl)
    | 12, ho =>
      obtain rfl := Option.some.inj ho
      refine want_none rfl ?_
      obtain ⟨v17, g17, e17⟩ := hdep 11 rfl
      have g17 : v17 = .pointer (some ⟨w.heap.size, 5, none⟩) := g17
      subst g17
      have e17 := e17 17 rfl
      exact op_run (by unfold execOp; simp [e17, Act.eval, go_sem]) (hK _ w1 (ExtD.refl _) rfl)
    | 13, ho =>
      obtain rfl := Option.some.inj ho
      refine want_none rfl ?_
      obtain ⟨v18, g18, e18⟩ := hdep 12 rfl
      have g18 : v18 = .pointer (some ⟨w.heap.size, 5, none⟩) := g18
      subst g18
      have e18 := e18 18 rfl
      have d5 := (HB0.out.ext hx.ext).cell 5
      have d6 := (HB0.out.ext hx.ext).cell 6
      have d7 := (HB0.out.ext hx.ext).cell 7
      have dl := (HB0.out.ext hx.ext).lt
      simp only [List.getElem?_cons_zero, List.getElem?_cons_succ] at d5 d6 d7
      exact op_run (by unfold execOp; simp [e18, Act.eval, go_sem, d5, d6, d7]) (hK _ w1 (ExtD.refl _) rfl)
    | 14, ho =>
      obtain rfl := Option.some.inj ho
      refine want_none rfl ?_
      have e1 : b.tmps[1]? = some (.pointer (some ⟨w.heap.size, 0, none⟩)) := hmiss 1 rfl
      exact op_run (by unfold execOp; simp [e1, Act.eval, go_sem]) (hK _ w1 (ExtD.refl _) rfl)
    | 15, ho =>
      obtain rfl := Option.some.inj ho
      refine want_none rfl ?_
      obtain ⟨v20, g20, e20⟩ := hdep 14 rfl
      have g20 : v20 = .pointer (some ⟨w.heap.size, 5, none⟩) := g20
      subst g20
      have e20 := e20 20 rfl
      exact op_run (by unfold execOp; simp [e20, Act.eval, go_sem]) (hK _ w1 (ExtD.refl _) rfl)
    | 16, ho =>
      obtain rfl := Option.some.inj ho
      refine want_none rfl ?_
      obtain ⟨v21, g21, e21⟩ := hdep 15 rfl
      have g21 : v21 = .pointer (some ⟨w.heap.size, 8, none⟩) := g21
      subst g21
      have e21 := e21 21 rfl
      have d8 := (HB0.out.ext hx.ext).cell 8
      have d9 := (HB0.out.ext hx.ext).cell 9
      have d10 := (HB0.out.ext hx.ext).cell 10
      have dl := (HB0.out.ext hx.ext).lt
      simp only [List.getElem?_cons_zero, List.getElem?_cons_succ] at d8 d9 d10
      exact op_run (by unfold execOp; simp [e21, Act.eval, go_sem, d8, d9, d10]) (hK _ w1 (ExtD.refl _) rfl)
    | 17, ho =>
      obtain rfl := Option.some.inj ho
      refine want_none rfl ?_
      have e1 : b.tmps[1]? = some (.pointer (some ⟨w.heap.size, 0, none⟩)) := hmiss 1 rfl
      exact op_run (by unfold execOp; simp [e1, Act.eval, go_sem]) (hK _ w1 (ExtD.refl _) rfl)
    | 18, ho =>
      obtain rfl := Option.some.inj ho
      refine want_none rfl ?_
      obtain ⟨v23, g23, e23⟩ := hdep 17 rfl
      have g23 : v23 = .pointer (some ⟨w.heap.size, 11, none⟩) := g23
      subst g23
      have e23 := e23 23 rfl
      have d11 := (HB0.out.ext hx.ext).cell 11
      have d12 := (HB0.out.ext hx.ext).cell 12
      have d13 := (HB0.out.ext hx.ext).cell 13
      have dl := (HB0.out.ext hx.ext).lt
      simp only [List.getElem?_cons_zero, List.getElem?_cons_succ] at d11 d12 d13
      exact op_run (by unfold execOp; simp [e23, Act.eval, go_sem, d11, d12, d13]) (hK _ w1 (ExtD.refl _) rfl)
    | 19, ho =>
      obtain rfl := Option.some.inj ho
      refine want_none rfl ?_
      obtain ⟨v19, g19, e19⟩ := hdep 13 rfl
      have g19 : v19 = .agg #[.int .i64 x.box.lo.x, .int .i64 x.box.lo.y, .int .i64 x.box.lo.z] := g19
      subst g19
      have e19 := e19 19 rfl
      obtain ⟨v22, g22, e22⟩ := hdep 16 rfl
      have g22 : v22 = .agg #[.int .i64 x.box.hi.x, .int .i64 x.box.hi.y, .int .i64 x.box.hi.z] := g22
      subst g22
      have e22 := e22 22 rfl
      obtain ⟨v24, g24, e24⟩ := hdep 18 rfl
      have g24 : v24 = .agg #[.int .i64 x.at_.x, .int .i64 x.at_.y, .int .i64 x.at_.z] := g24
      subst g24
      have e24 := e24 24 rfl
      exact op_run (v := .slice (some ⟨w1.heap.size, 0, none⟩) 3 3) (w2 := w1.alloc (.cells (rowsP [x.box.lo, x.box.hi, x.at_]).flatten.toArray 28)) (by unfold execOp; simp [e19, e22, e24, Act.eval, go_sem, rowsP, Pt.cells]) (hK _ _ ((ExtD.refl w1).alloc _) ⟨_, rfl, sv_newP w1 [x.box.lo, x.box.hi, x.at_] (by simp)⟩)
    | 20, ho =>
      obtain rfl := Option.some.inj ho
      refine want_none rfl ?_
      obtain ⟨v25, ⟨b1, k1, k2⟩, e25⟩ := hdep 19 rfl
      have e25 := e25 25 rfl
      subst k1
      have hc := (coordinates_any (some ⟨b1, 0, none⟩) 3 [x.box.lo, x.box.hi, x.at_] w1 k2 (by simp)).mono (R' := fun e w' => ∃ v, e = .returned v ∧ ExtD w1 w' ∧ ∃ A' c', v = .slice A' 9 c' ∧ Sv w' w'.heap.size 1 A' c' (rowsI (coordsL [x.box.lo, x.box.hi, x.at_]))) (fun e w' ⟨v, h1, h2, h3⟩ => (by obtain ⟨A', c', rfl, _⟩ := own_form h2; exact ⟨_, h1, h3, A', c', rfl, Sv.of_own h2 (rowsI_rwk _) (rowsI_length _)⟩))
      exact op_callD rfl (by first | (simp [eval_of e25]; done) | (simp [eval_of e25]; rfl)) (fun _ _ => by kernel_rfl) hc (fun v w' h g => hK v w' h g)
    | 21, ho =>
      obtain rfl := Option.some.inj ho
      refine want_none rfl ?_
      have e1 : b.tmps[1]? = some (.pointer (some ⟨w.heap.size, 0, none⟩)) := hmiss 1 rfl
      exact op_run (by unfold execOp; simp [e1, Act.eval, go_sem]) (hK _ w1 (ExtD.refl _) rfl)
    | 22, ho =>
      obtain rfl := Option.some.inj ho
      refine want_none rfl ?_
      obtain ⟨v27, g27, e27⟩ := hdep 21 rfl
      have g27 : v27 = .pointer (some ⟨w.heap.size, 14, none⟩) := g27
      subst g27
      have e27 := e27 27 rfl
      have d14 := (HB0.out.ext hx.ext).cell 14
      have dl := (HB0.out.ext hx.ext).lt
      simp only [List.getElem?_cons_zero, List.getElem?_cons_succ] at d14
      exact op_run (by unfold execOp; simp [e27, Act.eval, go_sem, d14]) (hK _ w1 (ExtD.refl _) rfl)
    | 23, ho =>
      obtain rfl := Option.some.inj ho
      refine want_none rfl ?_
      have e1 : b.tmps[1]? = some (.pointer (some ⟨w.heap.size, 0, none⟩)) := hmiss 1 rfl
      exact op_run (by unfold execOp; simp [e1, Act.eval, go_sem]) (hK _ w1 (ExtD.refl _) rfl)
    | 24, ho =>
      obtain rfl := Option.some.inj ho
      refine want_none rfl ?_
      obtain ⟨v29, g29, e29⟩ := hdep 23 rfl
      have g29 : v29 = .pointer (some ⟨w.heap.size, 15, none⟩) := g29
      subst g29
      have e29 := e29 29 rfl
      have d15 := (HB0.out.ext hx.ext).cell 15
      have dl := (HB0.out.ext hx.ext).lt
      simp only [List.getElem?_cons_zero, List.getElem?_cons_succ] at d15
      exact op_run (by unfold execOp; simp [e29, Act.eval, go_sem, d15]) (hK _ w1 (ExtD.refl _) rfl)
    | 25, ho =>
      obtain rfl := Option.some.inj ho
      refine want_none rfl ?_
      have e1 : b.tmps[1]? = some (.pointer (some ⟨w.heap.size, 0, none⟩)) := hmiss 1 rfl
      exact op_run (by unfold execOp; simp [e1, Act.eval, go_sem]) (hK _ w1 (ExtD.refl _) rfl)
    | 26, ho =>
      obtain rfl := Option.some.inj ho
      refine want_none rfl ?_
      obtain ⟨v31, g31, e31⟩ := hdep 25 rfl
      have g31 : v31 = .pointer (some ⟨w.heap.size, 16, none⟩) := g31
      subst g31
      have e31 := e31 31 rfl
      have d16 := (HB0.out.ext hx.ext).cell 16
      have dl := (HB0.out.ext hx.ext).lt
      simp only [List.getElem?_cons_zero, List.getElem?_cons_succ] at d16
      exact op_run (by unfold execOp; simp [e31, Act.eval, go_sem, d16]) (hK _ w1 (ExtD.refl _) rfl)
    | 27, ho =>
      obtain rfl := Option.some.inj ho
      refine want_none rfl ?_
      obtain ⟨v28, g28, e28⟩ := hdep 22 rfl
      have g28 : v28 = .int .i64 x.turn := g28
      subst g28
      have e28 := e28 28 rfl
      obtain ⟨v30, g30, e30⟩ := hdep 24 rfl
      have g30 : v30 = .int .i64 x.cell := g30
      subst g30
      have e30 := e30 30 rfl
      obtain ⟨v32, g32, e32⟩ := hdep 26 rfl
      have g32 : v32 = .int .i64 x.size := g32
      subst g32
      have e32 := e32 32 rfl
      exact op_run (v := .slice (some ⟨w1.heap.size, 0, none⟩) 3 3) (w2 := w1.alloc (.cells (([x.turn, x.cell, x.size] : List Int).map (Value.int .i64)).toArray 3)) (by unfold execOp; simp [e28, e30, e32, Act.eval, go_sem]) (hK _ _ ((ExtD.refl w1).alloc _) ⟨_, rfl, sv_new w1 [x.turn, x.cell, x.size] (by simp)⟩)
    | 28, ho =>
      obtain rfl := Option.some.inj ho
      refine want_none rfl ?_
      obtain ⟨v16, ⟨b1, k1, s1⟩, e16⟩ := hdep 10 rfl
      have e16 := e16 16 rfl
      subst k1
      obtain ⟨v26, ⟨A2, c2, k2, s2⟩, e26⟩ := hdep 20 rfl
      have e26 := e26 26 rfl
      subst k2
      obtain ⟨v33, ⟨b3, k3, s3⟩, e33⟩ := hdep 27 rfl
      have e33 := e33 33 rfl
      subst k3
      have hv := svI_new w1 [.slice (some ⟨b1, 0, none⟩) 5 5, .slice A2 9 c2, .slice (some ⟨b3, 0, none⟩) 3 3] [[x.st.tick, x.st.clock, x.st.site, x.st.seq, x.kind], coordsL [x.box.lo, x.box.hi, x.at_], [x.turn, x.cell, x.size]] (by simp) rfl (by simp [Value.oneCell']) (fun i v l hv hl => by
        match i, hv, hl with
        | 0, hv, hl => simp at hv hl; subst hv hl; exact ⟨_, _, rfl, s1⟩
        | 1, hv, hl => simp at hv hl; subst hv hl; exact ⟨_, _, rfl, s2⟩
        | 2, hv, hl => simp at hv hl; subst hv hl; exact ⟨_, _, rfl, s3⟩
        | i + 3, hv, hl => simp at hv)
      exact op_run (v := .slice (some ⟨w1.heap.size, 0, none⟩) 3 3) (w2 := w1.alloc (.cells ([.slice (some ⟨b1, 0, none⟩) 5 5, .slice A2 9 c2, .slice (some ⟨b3, 0, none⟩) 3 3] : List Value).toArray 80)) (by unfold execOp; simp [e16, e26, e33, Act.eval, go_sem]) (hK _ _ ((ExtD.refl w1).alloc _) ⟨_, _, rfl, hv⟩)
    | 29, ho =>
      obtain rfl := Option.some.inj ho
      refine want_none rfl ?_
      obtain ⟨v34, ⟨b1, vs1, k1, k2⟩, e34⟩ := hdep 28 rfl
      have e34 := e34 34 rfl
      subst k1
      have hc := (Concat_any (some ⟨b1, 0, none⟩) 3 vs1 [[x.st.tick, x.st.clock, x.st.site, x.st.seq, x.kind], coordsL [x.box.lo, x.box.hi, x.at_], [x.turn, x.cell, x.size]] w1 k2 (by simp [coordsL])).mono (R' := fun e w' => ∃ v, e = .returned v ∧ ExtD w1 w' ∧ ∃ A' c', v = .slice A' 17 c' ∧ Sv w' w'.heap.size 1 A' c' (rowsI (numsE x))) (fun e w' ⟨v, h1, h2, h3⟩ => (by rw [numsE_flat] at h2; obtain ⟨A', c', rfl, _⟩ := own_form h2; exact ⟨_, h1, h3, A', c', rfl, Sv.of_own h2 (rowsI_rwk _) (rowsI_length _)⟩))
      exact op_callD rfl (by first | (simp [eval_of e34]; done) | (simp [eval_of e34]; rfl)) (fun _ _ => by kernel_rfl) hc (fun v w' h g => hK v w' h g)
    | 30, ho =>
      obtain rfl := Option.some.inj ho
      refine want_none rfl ?_
      obtain ⟨v1, g1, e1⟩ := hdep 29 rfl
      have e1 := e1 35 rfl
      exact op_assign rfl (eval_of e1) (hK _ w1 (ExtD.refl _) g1)
    | i + 31, ho => cases ho
  · intro V W2 hx hg
    obtain ⟨AR, cR, q0, sR⟩ := hg 30 (by decide)
    simp only [List.length_cons, List.length_nil, fillAllN, dstOf, Act.put, List.getElem?_toArray, List.getElem?_cons_zero, List.getElem?_cons_succ, Option.bind_some, List.setIfInBounds_toArray, List.set_cons_zero, List.set_cons_succ, q0]
    clear hg q0
    go_wp2
    go_ret
    exact ⟨_, _, rfl, sR, HX1.out.trans hx⟩
end Go.Proofs.YtcfebfblmmbeaaaDoor

/- slices.Compare at ints. -/
namespace Go.Proofs.YtcfebfblmmbeaaaDoor
open Go Go.RowKit

/-- -1, 0 or 1, as the first difference says; for lists of one length. -/
def cmpV (l m : List Int) : Int := if ltL l m then -1 else if ltL m l then 1 else 0
theorem cmpV_self (l : List Int) : cmpV l l = 0 := by unfold cmpV; rw [ltL_irr]; simp
theorem cmpV_cons (x y : Int) (l m : List Int) : cmpV (x :: l) (y :: m) = orI (cmpI x y) (cmpV l m) := by
  unfold cmpV cmpI orI
  simp only [ltL, Bool.or_eq_true, decide_eq_true_eq, Bool.and_eq_true]
  by_cases h1 : x < y
  · rw [if_pos (.inl h1), if_pos h1]; simp
  · by_cases h2 : y < x
    · rw [if_neg (by intro h; rcases h with h | h <;> omega), if_pos (.inl h2), if_neg h1, if_pos h2]; simp
    · have h3 : x = y := by omega
      subst h3
      simp
theorem cmpV_at {k : Nat} : ∀ {l m : List Int} {x y : Int}, (∀ i, i < k → l[i]? = m[i]?) → l[k]? = some x → m[k]? = some y → x ≠ y → cmpV l m = cmpI x y := by
  induction k with
  | zero =>
    intro l m x y _ hx hy hne
    cases l with
    | nil => simp at hx
    | cons a l =>
      cases m with
      | nil => simp at hy
      | cons b m =>
        simp at hx hy
        subst hx hy
        rw [cmpV_cons]
        unfold orI cmpI
        by_cases h1 : a < b
        · simp [h1]
        · by_cases h2 : b < a
          · simp [h1, h2]
          · omega
  | succ k ih =>
    intro l m x y h hx hy hne
    cases l with
    | nil => simp at hx
    | cons a l =>
      cases m with
      | nil => simp at hy
      | cons b m =>
        have h0 := h 0 (by omega)
        simp at h0
        subst h0
        rw [cmpV_cons, ih (fun i hi => by simpa using h (i + 1) (by omega)) (by simpa using hx) (by simpa using hy) hne]
        unfold orI cmpI
        simp
theorem cmpV_lt {l m : List Int} : cmpV l m < 0 ↔ ltL l m = true := by
  unfold cmpV
  cases ltL l m <;> cases ltL m l <;> simp
theorem cmpV_zero {l m : List Int} (hl : l.length = m.length) : cmpV l m = 0 ↔ l = m := by
  constructor
  · intro h
    unfold cmpV at h
    cases h1 : ltL l m
    · cases h2 : ltL m l
      · exact ltL_total hl h1 h2
      · simp [h1, h2] at h
    · simp [h1] at h
  · rintro rfl; exact cmpV_self l
set_option maxHeartbeats 2000000 in
theorem CompareI_any (A : Option Addr) (c : Nat) (l : List Int) (A' : Option Addr) (c' : Nat) (m : List Int) (n B : Nat) (w : World) (hs : Sv w B 1 A c (rowsI l)) (hs' : Sv w B 1 A' c' (rowsI m)) (_hB : B ≤ w.heap.size) (hl : l.length = n) (hm : m.length = n) :
    Calls Tryd.prog 79 #[.slice A n c, .slice A' n c'] w fun e w' => e = .returned (.int .i64 (cmpV l m)) ∧ w = w' := by
  have hln := hs.len
  rw [rowsI_length, hl] at hln
  have HS := Lib.hid hs; have HS' := Lib.hid hs'; have HLN := Lib.hid hl; have HMN := Lib.hid hm; clear hs hs' hl hm
  go_enter Tryd.func79, Tryd.ntmps79
  go_wp2
  go_loop [11] (fun i => ∃ k : Nat, k ≤ n ∧ i = .int .i64 k ∧ ∀ i, i < k → l[i]? = m[i]?) (fun i => n - (intOf i).toNat)
  case atStart => exact ⟨0, Nat.zero_le _, rfl, fun i hi => by omega⟩
  case round =>
    obtain ⟨k, hk, rfl, hg⟩ := hrel
    have HG := Lib.hid hg; clear hg
    by_cases hlt : k < n
    · obtain ⟨x, hx⟩ : ∃ x, l[k]? = some x := ⟨_, List.getElem?_eq_getElem (by rw [HLN.out]; exact hlt)⟩
      obtain ⟨y, hy⟩ : ∃ y, m[k]? = some y := ⟨_, List.getElem?_eq_getElem (by rw [HMN.out]; exact hlt)⟩
      obtain ⟨b, off, rfl, hb, h0⟩ := int_row HS.out hx
      obtain ⟨b', off', rfl, hb', h1⟩ := int_row HS'.out hy
      have HX := Lib.hid hx; have HY := Lib.hid hy; clear hx hy
      by_cases hz : x = y
      · subst hz
        have hc : cmpI x x = 0 := by unfold cmpI; simp
        have HG2 := Lib.hid (show ∀ i, i < k + 1 → l[i]? = m[i]? from fun i hi => by
          rcases Nat.lt_succ_iff_lt_or_eq.1 hi with h1 | rfl
          · exact HG.out i h1
          · rw [HX.out, HY.out])
        have HC := Lib.hid (fun w => Compare_any x x w)
        rw [hc] at HC
        go_wp2_with (go_at_call 58; refine (HC.out _).mono ?_; rintro e w' ⟨rfl, rfl⟩)
        go_round
        case rel => exact ⟨k + 1, by omega, by go_num, HG2.out⟩
        case measure => simp [intOf]; omega
      · have hc : cmpI x y ≠ 0 := by unfold cmpI; split <;> (try split) <;> omega
        have hc2 : (cmpI x y != 0) = true := by simpa using hc
        have HO := Lib.hid (cmpV_at HG.out HX.out HY.out hz)
        have HC := Lib.hid (fun w => Compare_any x y w)
        generalize cmpI x y = r at HC HO hc hc2
        clear hz hc
        go_wp2_with (go_at_call 58; refine (HC.out _).mono ?_; rintro e w' ⟨rfl, rfl⟩)
        go_ret
        exact ⟨ret_int HO.out.symm, rfl⟩
    · obtain rfl : k = n := by omega
      have HO := Lib.hid (show cmpV l m = 0 from (cmpV_zero (HLN.out.trans HMN.out.symm)).2 (List.ext_getElem? fun i => by
        by_cases hi : i < k
        · exact HG.out i hi
        · rw [List.getElem?_eq_none (by rw [HLN.out]; omega), List.getElem?_eq_none (by rw [HMN.out]; omega)]))
      go_wp2
      go_ret
      exact ⟨ret_int HO.out.symm, rfl⟩
end Go.Proofs.YtcfebfblmmbeaaaDoor

/- stamp.Compare, edit.Compare. -/
namespace Go.Proofs.YtcfebfblmmbeaaaDoor
open Go Go.RowKit

set_option maxHeartbeats 1000000 in
theorem parts_D (s : Sp) (w : World) :
    Calls Tryd.prog 65 #[.agg #[.int .i64 s.tick, .int .i64 s.clock, .int .i64 s.site, .int .i64 s.seq]] w fun e w' => e = .returned (.agg #[.int .i64 s.tick, .int .i64 s.clock, .int .i64 s.site, .int .i64 s.seq]) ∧ ExtD w w' := by
  go_enter Tryd.func65, Tryd.ntmps65
  go_wp2
  refine bodyPost_ret (v := .agg #[.int .i64 s.tick, .int .i64 s.clock, .int .i64 s.site, .int .i64 s.seq]) ?_ rfl ?_
  · simp (maxDischargeDepth := 9) only [results, Tryd.results65]
    first
      | (go_simp; done)
      | (go_simp; simp; done)
      | (simp (maxDischargeDepth := 9) [go_sem, *]; done)
      | (simp (maxDischargeDepth := 9) [go_sem, *]; simp)
  · exact ⟨rfl, (by repeat (first | with_reducible exact ExtD.refl _ | with_reducible assumption | with_reducible refine ExtD.alloc ?_ _ | with_reducible refine ExtD.drew ?_ | (with_reducible refine ExtD.setCell ?_ ?_ _; rotate_left; focus (first | (simp; done) | (simp; omega) | omega)) | (with_reducible refine ExtD.setRow ?_ ?_ _; rotate_left; focus (first | (simp; done) | (simp; omega) | omega)) | with_reducible refine ExtD.trans ?_ (by with_reducible assumption)))⟩
set_option maxHeartbeats 1000000 in
theorem order_any (A : Option Addr) (c : Nat) (l : List Int) (n B : Nat) (w : World) (hs : Sv w B 1 A c (rowsI l)) (hB : B ≤ w.heap.size) (hn : l.length = n) :
    Calls Tryd.prog 94 #[.slice A n c] w fun e w' => e = .returned (.int .i64 (orL l)) ∧ w = w' := by
  subst hn
  have H := Lib.hid (Or_any A c l B w hs hB)
  clear hs hB
  go_enter Tryd.func94, Tryd.ntmps94
  go_wp2_with (go_at_call 57; refine H.out.mono ?_; rintro e w' ⟨rfl, rfl⟩)
  go_ret
  exact ⟨rfl, rfl⟩
def numsS (s : Sp) : List Int := [s.tick, s.clock, s.site, s.seq]
def cmpS (a b : Sp) : Int := orL [cmpI a.tick b.tick, cmpI a.clock b.clock, cmpI a.site b.site, cmpI a.seq b.seq]
theorem cmpS_eq (a b : Sp) : cmpS a b = cmpV (numsS a) (numsS b) := by
  unfold cmpS numsS
  rw [cmpV_cons, cmpV_cons, cmpV_cons, cmpV_cons]
  rfl
set_option maxRecDepth 100000 in
set_option maxHeartbeats 4000000 in
theorem stampCompare_any (p q : Sp) (w : World) :
    Calls Tryd.prog 78 #[.agg #[.int .i64 p.tick, .int .i64 p.clock, .int .i64 p.site, .int .i64 p.seq], .agg #[.int .i64 q.tick, .int .i64 q.clock, .int .i64 q.site, .int .i64 q.seq]] w fun e w' => e = .returned (.int .i64 (cmpS p q)) ∧ ExtD w w' := by
  have hm := mixed
  have hG := nearD_old
  have hzz : ∃ i z, (Tryd.prog).info? 82 = some i ∧ i.zero = some z ∧ z.cells.toList = [.int .i64 0, .int .i64 0, .int .i64 0, .int .i64 0] := by
    have h : (Tryd.prog.info? 82).map (fun i => (i.zero.map (fun z => z.cells.toList))) = some (some [.int .i64 0, .int .i64 0, .int .i64 0, .int .i64 0]) := by kernel_rfl
    cases hq : Tryd.prog.info? 82 with
    | none => rw [hq] at h; cases h
    | some i =>
      rw [hq] at h
      simp only [Option.map_some, Option.some.injEq] at h
      obtain ⟨z, h1, h2⟩ := Option.map_eq_some_iff.1 h
      exact ⟨i, z, rfl, h1, h2⟩
  have HZ := Lib.hid hzz
  clear hzz
  have B0 := (Arr.new w 26 [.int .i64 p.tick, .int .i64 p.clock, .int .i64 p.site, .int .i64 p.seq]).alloc (.cells #[.int .i64 q.tick, .int .i64 q.clock, .int .i64 q.site, .int .i64 q.seq] 26)
  have B1 := Arr.new (w.alloc (.cells #[.int .i64 p.tick, .int .i64 p.clock, .int .i64 p.site, .int .i64 p.seq] 26)) 26 [.int .i64 q.tick, .int .i64 q.clock, .int .i64 q.site, .int .i64 q.seq]
  rw [World.size_alloc_] at B1
  have hx0 : ExtD w ((w.alloc (.cells #[.int .i64 p.tick, .int .i64 p.clock, .int .i64 p.site, .int .i64 p.seq] 26)).alloc (.cells #[.int .i64 q.tick, .int .i64 q.clock, .int .i64 q.site, .int .i64 q.seq] 26)) := ((ExtD.refl w).alloc _).alloc _
  have HB0 := Lib.hid B0; have HB1 := Lib.hid B1; have HX0 := Lib.hid hx0
  clear B0 B1 hx0
  go_enter Tryd.func78, Tryd.ntmps78
  go_upto_region 1 with fail
  obtain ⟨W0, hW⟩ : ∃ W, W = (w.alloc (.cells #[.int .i64 p.tick, .int .i64 p.clock, .int .i64 p.site, .int .i64 p.seq] 26)).alloc (.cells #[.int .i64 q.tick, .int .i64 q.clock, .int .i64 q.site, .int .i64 q.seq] 26) := ⟨_, rfl⟩
  rw [← hW] at HB0 HB1 HX0
  rw [← hW]
  clear hW
  refine wp_region_two (w := W0) (fun i => match i with | 0 => .agg #[.int .i64 p.tick, .int .i64 p.clock, .int .i64 p.site, .int .i64 p.seq] | 1 => .agg #[.int .i64 p.tick, .int .i64 p.clock, .int .i64 p.site, .int .i64 p.seq] | 2 => .agg #[.int .i64 q.tick, .int .i64 q.clock, .int .i64 q.site, .int .i64 q.seq] | 3 => .agg #[.int .i64 q.tick, .int .i64 q.clock, .int .i64 q.site, .int .i64 q.seq] | _ => undef) 4 82 5 6 8 10 1 3 [.int .i64 0, .int .i64 0, .int .i64 0, .int .i64 0] [.int .i64 p.tick, .int .i64 p.clock, .int .i64 p.site, .int .i64 p.seq] [.int .i64 q.tick, .int .i64 q.clock, .int .i64 q.site, .int .i64 q.seq] hm (by kernel_rfl) (by kernel_rfl) (noGuardD (by kernel_rfl)) rfl ⟨_, rfl, rfl, rfl⟩ ⟨_, rfl, rfl, rfl⟩ ⟨_, rfl, rfl, rfl, rfl, rfl⟩ ⟨_, rfl, rfl, rfl, rfl, rfl⟩ (by decide) (by decide) rfl rfl (by simp) (by simp) (by simp) (by simp) rfl rfl HZ.out (by kernel_rfl) rfl rfl rfl rfl ?_ ?_
  · intro listed w1 i o ho hin hdep hx b K E0 E1 hK
    match i, ho with
    | 0, ho =>
      obtain rfl := Option.some.inj ho
      have e := E0 2 (by kernel_rfl)
      simp only [List.getElem?_toArray, List.getElem?_cons_zero, List.getElem?_cons_succ] at e
      exact op_loadrow rfl (eval_of e) (HB0.out.ext hx.ext) _ Tryd.underlying26 rfl (by kernel_rfl) (hK w1 (ExtD.refl _))
    | 1, ho =>
      obtain rfl := Option.some.inj ho
      have e := E1 0 7 (by decide) (getD_up (hdep ⟨0, .data⟩ (by simp) rfl)) rfl (by simp)
      refine op_callD (G := fun v _ => v = .agg #[.int .i64 p.tick, .int .i64 p.clock, .int .i64 p.site, .int .i64 p.seq]) rfl (by simp [eval_of e]) (fun _ _ => by kernel_rfl) ((parts_D p w1).mono fun e w' h => ⟨_, h.1, h.2, rfl⟩) (fun v w' h g => ?_)
      subst g
      exact hK w' h
    | 2, ho =>
      obtain rfl := Option.some.inj ho
      have e := E0 3 (by kernel_rfl)
      simp only [List.getElem?_toArray, List.getElem?_cons_zero, List.getElem?_cons_succ] at e
      exact op_loadrow rfl (eval_of e) (HB1.out.ext hx.ext) _ Tryd.underlying26 rfl (by kernel_rfl) (hK w1 (ExtD.refl _))
    | 3, ho =>
      obtain rfl := Option.some.inj ho
      have e := E1 2 9 (by decide) (getD_up (hdep ⟨2, .data⟩ (by simp) rfl)) rfl (by simp)
      refine op_callD (G := fun v _ => v = .agg #[.int .i64 q.tick, .int .i64 q.clock, .int .i64 q.site, .int .i64 q.seq]) rfl (by simp [eval_of e]) (fun _ _ => by kernel_rfl) ((parts_D q w1).mono fun e w' h => ⟨_, h.1, h.2, rfl⟩) (fun v w' h g => ?_)
      subst g
      exact hK w' h
    | i + 4, ho => omega
  · rintro ⟨g0, g1⟩ W1 hx hl0 hl1 A0 A1 hne
    simp only [List.length_cons, List.length_nil, fillAllN, dstOf, Act.put, List.getElem?_toArray, List.getElem?_cons_zero, List.getElem?_cons_succ, Option.bind_some, List.setIfInBounds_toArray, List.set_cons_zero, List.set_cons_succ, box2V]
    have HX1 := Lib.hid (HX0.out.trans hx)
    have d0 := A0.cell 0
    have d1 := A0.cell 1
    have d2 := A0.cell 2
    have d3 := A0.cell 3
    have e0 := A1.cell 0
    have e1 := A1.cell 1
    have e2 := A1.cell 2
    have e3 := A1.cell 3
    have l0 := A0.lt
    have l1 := A1.lt
    simp only [List.getElem?_cons_zero, List.getElem?_cons_succ] at d0 d1 d2 d3 e0 e1 e2 e3
    clear A0 A1 hx hl0 hl1 hne
    go_upto_region 2 with fail
    refine wp_region_nearD_tail 20 hm (by kernel_rfl) ?_
    simp only [List.take_succ_cons, List.take_zero, List.drop_succ_cons, List.drop_zero]
    repeat (go_big_quiet_step ((go_at_call 58; exact nearD_same (Compare_any _ _ _))))
    refine wpQuiet_nil ?_
    intro w1 hw1
    have HY := Lib.hid (HX1.out.trans (ExtD.of_nearD hw1))
    clear hw1 d0 d1 d2 d3 e0 e1 e2 e3 l0 l1 hG
    generalize hc0 : cmpI p.tick q.tick = c0
    generalize hc1 : cmpI p.clock q.clock = c1
    generalize hc2 : cmpI p.site q.site = c2
    generalize hc3 : cmpI p.seq q.seq = c3
    have HC := Lib.hid (show orL [c0, c1, c2, c3] = cmpS p q by rw [← hc0, ← hc1, ← hc2, ← hc3]; rfl)
    clear hc0 hc1 hc2 hc3
    have HO := Lib.hid (order_any _ 4 [c0, c1, c2, c3] 4 _ (w1.alloc (.cells ([c0, c1, c2, c3].map (Value.int .i64)).toArray 3)) (sv_new w1 [c0, c1, c2, c3] (by simp)) (Nat.le_refl _) rfl)
    have HX2 := Lib.hid (HY.out.alloc (.cells ([c0, c1, c2, c3].map (Value.int .i64)).toArray 3))
    go_wp2_with (first
      | (refine wpList_buildRow rfl 80 3 31 rfl 1 (by decide) (by decide) ([.int .i64 c0, .int .i64 c1, .int .i64 c2, .int .i64 c3]) rfl rfl Tryd.underlying80 (by kernel_rfl) (by kernel_rfl) ?_)
      | (go_at_call 94; refine HO.out.mono ?_; rintro e w' ⟨rfl, rfl⟩))
    go_ret
    exact ⟨ret_int HC.out, HX2.out⟩
def cmpE (x y : Ed) : Int := orL [cmpS x.st y.st, cmpV (numsE x) (numsE y)]
theorem cmpE_eq (x y : Ed) : cmpE x y = cmpV (numsE x) (numsE y) := by
  have h1 : ∀ r r' : List Int, cmpV (x.st.tick :: x.st.clock :: x.st.site :: x.st.seq :: r) (y.st.tick :: y.st.clock :: y.st.site :: y.st.seq :: r') = orI (cmpI x.st.tick y.st.tick) (orI (cmpI x.st.clock y.st.clock) (orI (cmpI x.st.site y.st.site) (orI (cmpI x.st.seq y.st.seq) (cmpV r r')))) := fun r r' => by rw [cmpV_cons, cmpV_cons, cmpV_cons, cmpV_cons]
  have h2 := h1 [] []
  unfold cmpE
  rw [cmpS_eq]
  unfold numsS numsE
  rw [h2, h1, cmpV_self]
  generalize cmpV _ _ = r
  generalize cmpI x.st.tick y.st.tick = c0
  generalize cmpI x.st.clock y.st.clock = c1
  generalize cmpI x.st.site y.st.site = c2
  generalize cmpI x.st.seq y.st.seq = c3
  simp only [orL]
  unfold orI
  repeat' split
  all_goals omega
end Go.Proofs.YtcfebfblmmbeaaaDoor

/- edit.Compare. -/
namespace Go.Proofs.YtcfebfblmmbeaaaDoor
open Go Go.RowKit

set_option maxRecDepth 100000 in
set_option maxHeartbeats 8000000 in
theorem CompareEd_any (x y : Ed) (w : World) :
    Calls Tryd.prog 62 #[.agg #[.int .i64 x.st.tick, .int .i64 x.st.clock, .int .i64 x.st.site, .int .i64 x.st.seq, .int .i64 x.kind, .int .i64 x.box.lo.x, .int .i64 x.box.lo.y, .int .i64 x.box.lo.z, .int .i64 x.box.hi.x, .int .i64 x.box.hi.y, .int .i64 x.box.hi.z, .int .i64 x.at_.x, .int .i64 x.at_.y, .int .i64 x.at_.z, .int .i64 x.turn, .int .i64 x.cell, .int .i64 x.size], .agg #[.int .i64 y.st.tick, .int .i64 y.st.clock, .int .i64 y.st.site, .int .i64 y.st.seq, .int .i64 y.kind, .int .i64 y.box.lo.x, .int .i64 y.box.lo.y, .int .i64 y.box.lo.z, .int .i64 y.box.hi.x, .int .i64 y.box.hi.y, .int .i64 y.box.hi.z, .int .i64 y.at_.x, .int .i64 y.at_.y, .int .i64 y.at_.z, .int .i64 y.turn, .int .i64 y.cell, .int .i64 y.size]] w fun e w' => e = .returned (.int .i64 (cmpV (numsE x) (numsE y))) ∧ ExtD w w' := by
  have hm := mixed
  have B0 := (Arr.new w 32 [.int .i64 x.st.tick, .int .i64 x.st.clock, .int .i64 x.st.site, .int .i64 x.st.seq, .int .i64 x.kind, .int .i64 x.box.lo.x, .int .i64 x.box.lo.y, .int .i64 x.box.lo.z, .int .i64 x.box.hi.x, .int .i64 x.box.hi.y, .int .i64 x.box.hi.z, .int .i64 x.at_.x, .int .i64 x.at_.y, .int .i64 x.at_.z, .int .i64 x.turn, .int .i64 x.cell, .int .i64 x.size]).alloc (.cells #[.int .i64 y.st.tick, .int .i64 y.st.clock, .int .i64 y.st.site, .int .i64 y.st.seq, .int .i64 y.kind, .int .i64 y.box.lo.x, .int .i64 y.box.lo.y, .int .i64 y.box.lo.z, .int .i64 y.box.hi.x, .int .i64 y.box.hi.y, .int .i64 y.box.hi.z, .int .i64 y.at_.x, .int .i64 y.at_.y, .int .i64 y.at_.z, .int .i64 y.turn, .int .i64 y.cell, .int .i64 y.size] 32)
  have B1 := Arr.new (w.alloc (.cells #[.int .i64 x.st.tick, .int .i64 x.st.clock, .int .i64 x.st.site, .int .i64 x.st.seq, .int .i64 x.kind, .int .i64 x.box.lo.x, .int .i64 x.box.lo.y, .int .i64 x.box.lo.z, .int .i64 x.box.hi.x, .int .i64 x.box.hi.y, .int .i64 x.box.hi.z, .int .i64 x.at_.x, .int .i64 x.at_.y, .int .i64 x.at_.z, .int .i64 x.turn, .int .i64 x.cell, .int .i64 x.size] 32)) 32 [.int .i64 y.st.tick, .int .i64 y.st.clock, .int .i64 y.st.site, .int .i64 y.st.seq, .int .i64 y.kind, .int .i64 y.box.lo.x, .int .i64 y.box.lo.y, .int .i64 y.box.lo.z, .int .i64 y.box.hi.x, .int .i64 y.box.hi.y, .int .i64 y.box.hi.z, .int .i64 y.at_.x, .int .i64 y.at_.y, .int .i64 y.at_.z, .int .i64 y.turn, .int .i64 y.cell, .int .i64 y.size]
  rw [World.size_alloc_] at B1
  have hx0 : ExtD w ((w.alloc (.cells #[.int .i64 x.st.tick, .int .i64 x.st.clock, .int .i64 x.st.site, .int .i64 x.st.seq, .int .i64 x.kind, .int .i64 x.box.lo.x, .int .i64 x.box.lo.y, .int .i64 x.box.lo.z, .int .i64 x.box.hi.x, .int .i64 x.box.hi.y, .int .i64 x.box.hi.z, .int .i64 x.at_.x, .int .i64 x.at_.y, .int .i64 x.at_.z, .int .i64 x.turn, .int .i64 x.cell, .int .i64 x.size] 32)).alloc (.cells #[.int .i64 y.st.tick, .int .i64 y.st.clock, .int .i64 y.st.site, .int .i64 y.st.seq, .int .i64 y.kind, .int .i64 y.box.lo.x, .int .i64 y.box.lo.y, .int .i64 y.box.lo.z, .int .i64 y.box.hi.x, .int .i64 y.box.hi.y, .int .i64 y.box.hi.z, .int .i64 y.at_.x, .int .i64 y.at_.y, .int .i64 y.at_.z, .int .i64 y.turn, .int .i64 y.cell, .int .i64 y.size] 32)) := ((ExtD.refl w).alloc _).alloc _
  have HB0 := Lib.hid B0; have HB1 := Lib.hid B1; have HX0 := Lib.hid hx0
  clear B0 B1 hx0
  go_enter Tryd.func62, Tryd.ntmps62
  go_upto_region 1 with fail
  obtain ⟨W0, hW⟩ : ∃ W, W = (w.alloc (.cells #[.int .i64 x.st.tick, .int .i64 x.st.clock, .int .i64 x.st.site, .int .i64 x.st.seq, .int .i64 x.kind, .int .i64 x.box.lo.x, .int .i64 x.box.lo.y, .int .i64 x.box.lo.z, .int .i64 x.box.hi.x, .int .i64 x.box.hi.y, .int .i64 x.box.hi.z, .int .i64 x.at_.x, .int .i64 x.at_.y, .int .i64 x.at_.z, .int .i64 x.turn, .int .i64 x.cell, .int .i64 x.size] 32)).alloc (.cells #[.int .i64 y.st.tick, .int .i64 y.st.clock, .int .i64 y.st.site, .int .i64 y.st.seq, .int .i64 y.kind, .int .i64 y.box.lo.x, .int .i64 y.box.lo.y, .int .i64 y.box.lo.z, .int .i64 y.box.hi.x, .int .i64 y.box.hi.y, .int .i64 y.box.hi.z, .int .i64 y.at_.x, .int .i64 y.at_.y, .int .i64 y.at_.z, .int .i64 y.turn, .int .i64 y.cell, .int .i64 y.size] 32) := ⟨_, rfl⟩
  rw [← hW] at HB0 HB1 HX0
  rw [← hW]
  clear hW
  refine wp_region_relD (w := W0) (fun i v w' => match i with
      | 0 => v = .pointer (some ⟨w.heap.size, 0, none⟩)
      | 1 => v = .agg #[.int .i64 x.st.tick, .int .i64 x.st.clock, .int .i64 x.st.site, .int .i64 x.st.seq]
      | 2 => v = .pointer (some ⟨w.heap.size + 1, 0, none⟩)
      | 3 => v = .agg #[.int .i64 y.st.tick, .int .i64 y.st.clock, .int .i64 y.st.site, .int .i64 y.st.seq]
      | 4 => v = .int .i64 (cmpS x.st y.st)
      | 5 => v = .agg #[.int .i64 x.st.tick, .int .i64 x.st.clock, .int .i64 x.st.site, .int .i64 x.st.seq, .int .i64 x.kind, .int .i64 x.box.lo.x, .int .i64 x.box.lo.y, .int .i64 x.box.lo.z, .int .i64 x.box.hi.x, .int .i64 x.box.hi.y, .int .i64 x.box.hi.z, .int .i64 x.at_.x, .int .i64 x.at_.y, .int .i64 x.at_.z, .int .i64 x.turn, .int .i64 x.cell, .int .i64 x.size]
      | 6 => ∃ A' c', v = .slice A' 17 c' ∧ Sv w' w'.heap.size 1 A' c' (rowsI (numsE x))
      | 7 => v = .agg #[.int .i64 y.st.tick, .int .i64 y.st.clock, .int .i64 y.st.site, .int .i64 y.st.seq, .int .i64 y.kind, .int .i64 y.box.lo.x, .int .i64 y.box.lo.y, .int .i64 y.box.lo.z, .int .i64 y.box.hi.x, .int .i64 y.box.hi.y, .int .i64 y.box.hi.z, .int .i64 y.at_.x, .int .i64 y.at_.y, .int .i64 y.at_.z, .int .i64 y.turn, .int .i64 y.cell, .int .i64 y.size]
      | 8 => ∃ A' c', v = .slice A' 17 c' ∧ Sv w' w'.heap.size 1 A' c' (rowsI (numsE y))
      | 9 => v = .int .i64 (cmpV (numsE x) (numsE y))
      | 10 => ∃ b, v = .slice (some ⟨b, 0, none⟩) 2 2 ∧ Sv w' w'.heap.size 1 (some ⟨b, 0, none⟩) 2 (rowsI [cmpS x.st y.st, cmpV (numsE x) (numsE y)])
      | 11 => v = .int .i64 (cmpE x y)
      | 12 => v = .int .i64 (cmpE x y)
      | _ => True) hm (by kernel_rfl) (by kernel_rfl) rfl ?_ ?_ ?_
  · intro i v w1 w2 hx h
    match i, h with
    | 0, h => exact h
    | 1, h => exact h
    | 2, h => exact h
    | 3, h => exact h
    | 4, h => exact h
    | 5, h => exact h
    | 6, h => exact (by obtain ⟨A', c', k1, k2⟩ := h; exact ⟨A', c', k1, k2.ext hx⟩)
    | 7, h => exact h
    | 8, h => exact (by obtain ⟨A', c', k1, k2⟩ := h; exact ⟨A', c', k1, k2.ext hx⟩)
    | 9, h => exact h
    | 10, h => exact (by obtain ⟨b, k1, k2⟩ := h; exact ⟨b, k1, k2.ext hx⟩)
    | 11, h => exact h
    | 12, h => exact h
    | i + 13, h => exact trivial
  · intro i o ho b w1 hx hmiss hdep K hK
    match i, ho with
    | 0, ho =>
      obtain rfl := Option.some.inj ho
      refine want_none rfl ?_
      have e2 : b.tmps[2]? = some (.pointer (some ⟨w.heap.size, 0, none⟩)) := hmiss 2 rfl
      exact op_run (by unfold execOp; simp [e2, Act.eval, go_sem]) (hK _ w1 (ExtD.refl _) rfl)
    | 1, ho =>
      obtain rfl := Option.some.inj ho
      refine want_none rfl ?_
      obtain ⟨v5, g5, e5⟩ := hdep 0 rfl
      have g5 : v5 = .pointer (some ⟨w.heap.size, 0, none⟩) := g5
      subst g5
      have e5 := e5 5 rfl
      refine wp_load_mid 26 (.tmp 5) rfl _ 0 (eval_of e5) [.int .i64 x.st.tick, .int .i64 x.st.clock, .int .i64 x.st.site, .int .i64 x.st.seq] _ (fun j v hv => ?_) Tryd.underlying26 rfl (by kernel_rfl) (hK _ w1 (ExtD.refl _) rfl)
      rw [Nat.zero_add, (HB0.out.ext hx.ext).cell]
      show ([.int .i64 x.st.tick, .int .i64 x.st.clock, .int .i64 x.st.site, .int .i64 x.st.seq] ++ [.int .i64 x.kind, .int .i64 x.box.lo.x, .int .i64 x.box.lo.y, .int .i64 x.box.lo.z, .int .i64 x.box.hi.x, .int .i64 x.box.hi.y, .int .i64 x.box.hi.z, .int .i64 x.at_.x, .int .i64 x.at_.y, .int .i64 x.at_.z, .int .i64 x.turn, .int .i64 x.cell, .int .i64 x.size])[j]? = some v
      rw [List.getElem?_append_left (List.getElem?_eq_some_iff.1 hv).1]
      exact hv
    | 2, ho =>
      obtain rfl := Option.some.inj ho
      refine want_none rfl ?_
      have e3 : b.tmps[3]? = some (.pointer (some ⟨w.heap.size + 1, 0, none⟩)) := hmiss 3 rfl
      exact op_run (by unfold execOp; simp [e3, Act.eval, go_sem]) (hK _ w1 (ExtD.refl _) rfl)
    | 3, ho =>
      obtain rfl := Option.some.inj ho
      refine want_none rfl ?_
      obtain ⟨v7, g7, e7⟩ := hdep 2 rfl
      have g7 : v7 = .pointer (some ⟨w.heap.size + 1, 0, none⟩) := g7
      subst g7
      have e7 := e7 7 rfl
      refine wp_load_mid 26 (.tmp 7) rfl _ 0 (eval_of e7) [.int .i64 y.st.tick, .int .i64 y.st.clock, .int .i64 y.st.site, .int .i64 y.st.seq] _ (fun j v hv => ?_) Tryd.underlying26 rfl (by kernel_rfl) (hK _ w1 (ExtD.refl _) rfl)
      rw [Nat.zero_add, (HB1.out.ext hx.ext).cell]
      show ([.int .i64 y.st.tick, .int .i64 y.st.clock, .int .i64 y.st.site, .int .i64 y.st.seq] ++ [.int .i64 y.kind, .int .i64 y.box.lo.x, .int .i64 y.box.lo.y, .int .i64 y.box.lo.z, .int .i64 y.box.hi.x, .int .i64 y.box.hi.y, .int .i64 y.box.hi.z, .int .i64 y.at_.x, .int .i64 y.at_.y, .int .i64 y.at_.z, .int .i64 y.turn, .int .i64 y.cell, .int .i64 y.size])[j]? = some v
      rw [List.getElem?_append_left (List.getElem?_eq_some_iff.1 hv).1]
      exact hv
    | 4, ho =>
      obtain rfl := Option.some.inj ho
      refine want_none rfl ?_
      obtain ⟨v6, g6, e6⟩ := hdep 1 rfl
      have g6 : v6 = .agg #[.int .i64 x.st.tick, .int .i64 x.st.clock, .int .i64 x.st.site, .int .i64 x.st.seq] := g6
      subst g6
      have e6 := e6 6 rfl
      obtain ⟨v8, g8, e8⟩ := hdep 3 rfl
      have g8 : v8 = .agg #[.int .i64 y.st.tick, .int .i64 y.st.clock, .int .i64 y.st.site, .int .i64 y.st.seq] := g8
      subst g8
      have e8 := e8 8 rfl
      have hc := (stampCompare_any x.st y.st w1).mono (R' := fun e w' => ∃ v, e = .returned v ∧ ExtD w1 w' ∧ v = .int .i64 (cmpS x.st y.st)) (fun e w' h => ⟨_, h.1, h.2, rfl⟩)
      exact op_callD rfl (by first | (simp [eval_of e6, eval_of e8]; done) | (simp [eval_of e6, eval_of e8]; rfl)) (fun _ _ => by kernel_rfl) hc (fun v w' h g => hK v w' h g)
    | 5, ho =>
      obtain rfl := Option.some.inj ho
      refine want_none rfl ?_
      have e2 : b.tmps[2]? = some (.pointer (some ⟨w.heap.size, 0, none⟩)) := hmiss 2 rfl
      exact op_loadrow rfl (eval_of e2) (HB0.out.ext hx.ext) _ Tryd.underlying32 rfl (by kernel_rfl) (hK _ w1 (ExtD.refl _) rfl)
    | 6, ho =>
      obtain rfl := Option.some.inj ho
      refine want_none rfl ?_
      obtain ⟨v10, g10, e10⟩ := hdep 5 rfl
      have g10 : v10 = .agg #[.int .i64 x.st.tick, .int .i64 x.st.clock, .int .i64 x.st.site, .int .i64 x.st.seq, .int .i64 x.kind, .int .i64 x.box.lo.x, .int .i64 x.box.lo.y, .int .i64 x.box.lo.z, .int .i64 x.box.hi.x, .int .i64 x.box.hi.y, .int .i64 x.box.hi.z, .int .i64 x.at_.x, .int .i64 x.at_.y, .int .i64 x.at_.z, .int .i64 x.turn, .int .i64 x.cell, .int .i64 x.size] := g10
      subst g10
      have e10 := e10 10 rfl
      have hc := (numbers_any x w1).mono (R' := fun e w' => ∃ v, e = .returned v ∧ ExtD w1 w' ∧ ∃ A' c', v = .slice A' 17 c' ∧ Sv w' w'.heap.size 1 A' c' (rowsI (numsE x))) (fun e w' ⟨A', c', h1, h2, h3⟩ => ⟨_, h1, h3, A', c', rfl, h2⟩)
      exact op_callD rfl (by first | (simp [eval_of e10]; done) | (simp [eval_of e10]; rfl)) (fun _ _ => by kernel_rfl) hc (fun v w' h g => hK v w' h g)
    | 7, ho =>
      obtain rfl := Option.some.inj ho
      refine want_none rfl ?_
      have e3 : b.tmps[3]? = some (.pointer (some ⟨w.heap.size + 1, 0, none⟩)) := hmiss 3 rfl
      exact op_loadrow rfl (eval_of e3) (HB1.out.ext hx.ext) _ Tryd.underlying32 rfl (by kernel_rfl) (hK _ w1 (ExtD.refl _) rfl)
    | 8, ho =>
      obtain rfl := Option.some.inj ho
      refine want_none rfl ?_
      obtain ⟨v12, g12, e12⟩ := hdep 7 rfl
      have g12 : v12 = .agg #[.int .i64 y.st.tick, .int .i64 y.st.clock, .int .i64 y.st.site, .int .i64 y.st.seq, .int .i64 y.kind, .int .i64 y.box.lo.x, .int .i64 y.box.lo.y, .int .i64 y.box.lo.z, .int .i64 y.box.hi.x, .int .i64 y.box.hi.y, .int .i64 y.box.hi.z, .int .i64 y.at_.x, .int .i64 y.at_.y, .int .i64 y.at_.z, .int .i64 y.turn, .int .i64 y.cell, .int .i64 y.size] := g12
      subst g12
      have e12 := e12 12 rfl
      have hc := (numbers_any y w1).mono (R' := fun e w' => ∃ v, e = .returned v ∧ ExtD w1 w' ∧ ∃ A' c', v = .slice A' 17 c' ∧ Sv w' w'.heap.size 1 A' c' (rowsI (numsE y))) (fun e w' ⟨A', c', h1, h2, h3⟩ => ⟨_, h1, h3, A', c', rfl, h2⟩)
      exact op_callD rfl (by first | (simp [eval_of e12]; done) | (simp [eval_of e12]; rfl)) (fun _ _ => by kernel_rfl) hc (fun v w' h g => hK v w' h g)
    | 9, ho =>
      obtain rfl := Option.some.inj ho
      refine want_none rfl ?_
      obtain ⟨v11, ⟨A1, c1, k1, s1⟩, e11⟩ := hdep 6 rfl
      have e11 := e11 11 rfl
      subst k1
      obtain ⟨v13, ⟨A2, c2, k2, s2⟩, e13⟩ := hdep 8 rfl
      have e13 := e13 13 rfl
      subst k2
      have hc := (CompareI_any A1 c1 (numsE x) A2 c2 (numsE y) 17 w1.heap.size w1 s1 s2 (Nat.le_refl _) rfl rfl).mono (R' := fun e w' => ∃ v, e = .returned v ∧ ExtD w1 w' ∧ v = .int .i64 (cmpV (numsE x) (numsE y))) (fun e w' h => ⟨_, h.1, (ExtD.refl _).same h.2, rfl⟩)
      exact op_callD rfl (by first | (simp [eval_of e11, eval_of e13]; done) | (simp [eval_of e11, eval_of e13]; rfl)) (fun _ _ => by kernel_rfl) hc (fun v w' h g => hK v w' h g)
    | 10, ho =>
      obtain rfl := Option.some.inj ho
      refine want_none rfl ?_
      obtain ⟨v9, g9, e9⟩ := hdep 4 rfl
      have g9 : v9 = .int .i64 (cmpS x.st y.st) := g9
      subst g9
      have e9 := e9 9 rfl
      obtain ⟨v14, g14, e14⟩ := hdep 9 rfl
      have g14 : v14 = .int .i64 (cmpV (numsE x) (numsE y)) := g14
      subst g14
      have e14 := e14 14 rfl
      exact op_run (v := .slice (some ⟨w1.heap.size, 0, none⟩) 2 2) (w2 := w1.alloc (.cells (([cmpS x.st y.st, cmpV (numsE x) (numsE y)] : List Int).map (Value.int .i64)).toArray 3)) (by unfold execOp; simp [e9, e14, Act.eval, go_sem]) (hK _ _ ((ExtD.refl w1).alloc _) ⟨_, rfl, sv_new w1 [cmpS x.st y.st, cmpV (numsE x) (numsE y)] (by simp)⟩)
    | 11, ho =>
      obtain rfl := Option.some.inj ho
      refine want_none rfl ?_
      obtain ⟨v15, ⟨b1, k1, k2⟩, e15⟩ := hdep 10 rfl
      have e15 := e15 15 rfl
      subst k1
      have hc := (Or_any (some ⟨b1, 0, none⟩) 2 [cmpS x.st y.st, cmpV (numsE x) (numsE y)] w1.heap.size w1 k2 (Nat.le_refl _)).mono (R' := fun e w' => ∃ v, e = .returned v ∧ ExtD w1 w' ∧ v = .int .i64 (cmpE x y)) (fun e w' h => ⟨_, h.1, (ExtD.refl _).same h.2, rfl⟩)
      exact op_callD rfl (by first | (simp [eval_of e15]; done) | (simp [eval_of e15]; rfl)) (fun _ _ => by kernel_rfl) hc (fun v w' h g => hK v w' h g)
    | 12, ho =>
      obtain rfl := Option.some.inj ho
      refine want_none rfl ?_
      obtain ⟨v16, g16, e16⟩ := hdep 11 rfl
      have g16 : v16 = .int .i64 (cmpE x y) := g16
      subst g16
      have e16 := e16 16 rfl
      exact op_assign rfl (eval_of e16) (hK _ w1 (ExtD.refl _) rfl)
    | i + 13, ho => cases ho
  · intro V W2 hx hg
    have q0 : V 12 = .int .i64 (cmpE x y) := hg 12 (by decide)
    simp only [List.length_cons, List.length_nil, fillAllN, dstOf, Act.put, List.getElem?_toArray, List.getElem?_cons_zero, List.getElem?_cons_succ, Option.bind_some, List.setIfInBounds_toArray, List.set_cons_zero, List.set_cons_succ, q0]
    clear hg q0
    go_wp2
    go_ret
    exact ⟨ret_int (cmpE_eq x y), HX0.out.trans hx⟩
end Go.Proofs.YtcfebfblmmbeaaaDoor

/- slices.SortFunc at structs, over a row of one's own: it then holds what core's mergeSort gives. For every program. -/
namespace Go.Proofs.YtcfebfblmmbeaaaDoor
open Go Go.RowKit Go.Sort

section
variable {α : Type} [Inhabited α] {enc : α → List Value} {k : Nat}
theorem flatK_list (hk : ∀ x, (enc x).length = k) (d : List α) : (flatK enc k d.toArray).toList = (d.map enc).flatten := by
  have hl : ∀ x, x ∈ d.map enc → x.length = k := fun x hx => by obtain ⟨y, _, rfl⟩ := List.mem_map.1 hx; exact hk y
  apply List.ext_getElem?
  intro t
  by_cases ht : t < d.length * k
  · have k0 : 0 < k := by rcases Nat.eq_zero_or_pos k with h | h; · subst h; simp at ht
                          · exact h
    have hi : t / k < d.length := Nat.div_lt_of_lt_mul (by rw [Nat.mul_comm]; exact ht)
    have hj : t % k < k := Nat.mod_lt _ k0
    have h1 := flatten_at (d.map enc) hl (t / k) (enc d[t / k]) (by simp [hi]) (t % k) ((enc d[t / k])[t % k]'(by rw [hk]; exact hj)) (List.getElem?_eq_getElem _)
    rw [Nat.mul_comm, Nat.div_add_mod] at h1
    rw [h1]
    have h2 : (flatK enc k d.toArray)[t]! = (enc d.toArray[t / k]!)[t % k]! := get_flatK _ _ _ t (by simpa using ht)
    rw [getElem!_pos _ t (by simpa using ht)] at h2
    rw [Array.getElem?_toList, Array.getElem?_eq_getElem (by simpa using ht), h2]
    congr 1
    rw [getElem!_pos d.toArray _ (by simpa using hi)]
    simp only [List.getElem_toArray]
    rw [getElem!_pos _ _ (by rw [hk]; exact hj)]
  · rw [List.getElem?_eq_none (by simp; omega), List.getElem?_eq_none (by rw [flatten_length _ hl]; simp; omega)]
theorem take_put (cur F : Array Value) (h : F.size ≤ cur.size) : (putCells id 0 F cur).toList.take F.size = F.toList := by
  apply List.ext_getElem?
  intro t
  rw [List.getElem?_take]
  by_cases ht : t < F.size
  · rw [if_pos ht]
    have : (putCells id 0 F cur)[t]? = some F[t] := by
      unfold putCells
      rw [Array.getElem?_mapIdx, Array.getElem?_eq_getElem (by omega)]
      simp [ht]
    simpa [ht] using this
  · rw [if_neg ht, List.getElem?_eq_none (by simpa using Nat.le_of_not_lt ht)]
theorem holds_of_own {w : World} {base n c g : Nat} {e : TypeId} {d : List α} (hk : ∀ x, (enc x).length = k) (h : w.ownsRow base e k (.slice (some ⟨g, 0, none⟩) n c) n (d.map enc).flatten) (hn : d.length = n) : HoldsK enc k w g 0 d.toArray := by
  obtain ⟨cur, hb, hg, hc, hm, hl, ht⟩ := own_cur h
  have hl2 : ∀ x, x ∈ d.map enc → x.length = k := fun x hx => by obtain ⟨y, _, rfl⟩ := List.mem_map.1 hx; exact hk y
  intro j hj
  have hj2 : j < n * k := by rw [size_flatK] at hj; simpa [hn] using hj
  refine ⟨?_, frozen_of_row w g _ cur.toArray e hg⟩
  rw [Nat.zero_add, cell_of_row w g _ cur.toArray e (0, 0) hg]
  have h1 : (flatK enc k d.toArray).toList[j]? = some (flatK enc k d.toArray)[j] := by simp
  rw [flatK_list hk, ← ht, List.getElem?_take, if_pos hj2] at h1
  rw [getElem!_pos _ j hj]
  simpa using h1
theorem own_put {w : World} {base n c g m : Nat} {e : TypeId} {d d' : List α} {os : Array Obj} (hk : ∀ x, (enc x).length = k) (h : w.ownsRow base e k (.slice (some ⟨g, 0, none⟩) n c) n (d.map enc).flatten) (_hn : d.length = n) (hd : d'.length = n) :
    (sortWorldK enc k w g 0 m d'.toArray os).ownsRow base e k (.slice (some ⟨g, 0, none⟩) n c) n (d'.map enc).flatten ∧ w.grownBy (sortWorldK enc k w g 0 m d'.toArray os) (some g) := by
  obtain ⟨cur, hb, hg, hc, hm, hl, ht⟩ := own_cur h
  have hgl := (Array.getElem?_eq_some_iff.1 hg).1
  have hnk : n * k ≤ cur.length := by rw [hl]; exact Nat.mul_le_mul_right _ hc
  have hbl : (sortWorldK enc k w g 0 m d'.toArray os).heap[g]? = some (.cells (putCells id 0 (flatK enc k d'.toArray) cur.toArray) e (0, 0)) := by
    unfold sortWorldK grow putRowK putRow mapBlock Go.Sort.ahead
    simp only [Array.getElem?_append, Array.size_modify, hgl, if_true, Array.getElem?_modify]
    rw [hg]
    rfl
  have hsz : (putCells id 0 (flatK enc k d'.toArray) cur.toArray).size = cur.length := by simp [putCells]
  refine ⟨own_of_cur (cur := (putCells id 0 (flatK enc k d'.toArray) cur.toArray).toList) hb (by simpa using hbl) hc hm (by rw [Array.length_toList, hsz, hl]) ?_, ?_⟩
  · have h1 := take_put cur.toArray (flatK enc k d'.toArray) (by simp [hd]; exact hnk)
    rw [size_flatK] at h1
    simp only [List.size_toArray, hd] at h1
    rw [h1, flatK_list hk]
  · refine ⟨rfl, rfl, rfl, ?_, fun i hi hne => ?_⟩
    · simp [sortWorldK, grow, putRowK, putRow, mapBlock, Go.Sort.ahead]
    · unfold sortWorldK grow putRowK putRow mapBlock Go.Sort.ahead
      simp only [Array.getElem?_append, Array.size_modify, hi, if_true, Array.getElem?_modify]
      rw [if_neg (by rintro rfl; exact hne rfl)]
end
/-- The class of the worlds that come of w by draws and new blocks. -/
def nearG (w : World) (n : Nat) (os : Array Obj) : World := grow (w.drewN n) os
theorem nearG_old (w : World) (n : Nat) (os : Array Obj) (b o : Nat) (h : b < w.heap.size) : (nearG w n os).cell? ⟨b, o, none⟩ = w.cell? ⟨b, o, none⟩ := by
  simp only [World.cell?, nearG, grow, World.drewN, Array.getElem?_append, h, if_true]
theorem nearG_drew (w : World) : w.drew = nearG w 1 #[] := by unfold nearG; rw [grow_empty]; rfl
theorem wp_region_nearG_tail {P : Program} {id : Nat} {Q : Exit → Act → World → Prop} {a : Act} {w : World} {l : List Oper} (n : Nat) (hm : P.follows .mixedOrders = true) (hB : Region.lexTailB .any l.toArray n = true)
    (h : wpQuiet P l.toArray (fun w' => ∃ p : Near, w' = nearG w p.n p.os) (fun a' => ∀ w', (∃ p : Near, w' = nearG w p.n p.os) → wpList P l.toArray Q (l.drop n) a' w') (l.take n) a) : (Code.region id l.toArray true).wp P Q a w :=
  wp_region_head n hm hB ⟨⟨1, #[]⟩, nearG_drew w⟩ h
theorem nearG_same {P : Program} {f : FuncId} {args : Array Value} {w : World} {n : Nat} {os : Array Obj} {v : Value}
    (h : Calls P f args (nearG w n os) fun e w' => e = .returned v ∧ nearG w n os = w') : Calls P f args (nearG w n os) fun e w'' => e = .returned v ∧ ∃ p : Near, w'' = nearG w p.n p.os :=
  h.mono fun _ _ ⟨he, hx⟩ => ⟨he, ⟨⟨n, os⟩, hx.symm⟩⟩
theorem nearG_grow (w : World) (n : Nat) (os os' : Array Obj) : grow (nearG w n os) os' = grow (w.drewN n) (os ++ os') := by unfold nearG; rw [grow_grow]
theorem nearG_alloc (w : World) (n : Nat) (os : Array Obj) (o : Obj) : ∃ q os', (nearG w n os).alloc o = grow (w.drewN q) os' := ⟨n, os ++ #[o], by rw [alloc_eq_grow, nearG_grow]⟩
theorem grown_alloc2 (w : World) (a b : Obj) (q : Nat) (os : Array Obj) : ∃ q' os', grow (((w.alloc a).alloc b).drewN q) os = grow (w.drewN q') os' := by
  refine ⟨q, #[a] ++ #[b] ++ os, ?_⟩
  rw [alloc_eq_grow, alloc_eq_grow, grow_grow]
  show grow (grow (w.drewN q) _) os = _
  rw [grow_grow]
end Go.Proofs.YtcfebfblmmbeaaaDoor

namespace Go.Proofs.YtcfebfblmmbeaaaDoor
open Go.Shelf
def Tryd.sortNm_ren : Go.Shelf.Ren := ⟨fun | 6 => 44 | 15 => 56 | 14 => 55 | 28 => 74 | 29 => 75 | 20 => 66 | 21 => 67 | 22 => 68 | 23 => 69 | 24 => 70 | 25 => 71 | 26 => 72 | 27 => 73 | 46 => 81 | 47 => 82 | 48 => 83 | 49 => 84 | 50 => 85 | 57 => 97 | n => n, fun | 22 => 41 | 24 => 24 | 25 => 64 | 3 => 3 | 39 => 75 | 0 => 0 | 53 => 95 | 55 => 97 | 4 => 4 | 46 => 89 | 45 => 88 | 50 => 36 | 5 => 5 | 9 => 9 | 66 => 102 | 70 => 106 | 76 => 115 | 77 => 116 | n => n, fun | n => n⟩
theorem Tryd.sortNm : Go.Proofs.SlLaysF0.n6 Tryd.prog Tryd.sortNm_ren := {
  mixed := by kernel_rfl
  f6 := ⟨Tryd.f44.name, by decide, Tryd.func44.trans (congrArg some (by kernel_rfl))⟩
  f14 := ⟨Tryd.f55.name, by decide, Tryd.func55.trans (congrArg some (by kernel_rfl))⟩
  f15 := Tryd.func56.trans (congrArg some (by kernel_rfl))
  f20 := ⟨Tryd.f66.name, by decide, Tryd.func66.trans (congrArg some (by kernel_rfl))⟩
  f21 := ⟨Tryd.f67.name, by decide, Tryd.func67.trans (congrArg some (by kernel_rfl))⟩
  f22 := ⟨Tryd.f68.name, by decide, Tryd.func68.trans (congrArg some (by kernel_rfl))⟩
  f23 := ⟨Tryd.f69.name, by decide, Tryd.func69.trans (congrArg some (by kernel_rfl))⟩
  f24 := ⟨Tryd.f70.name, by decide, Tryd.func70.trans (congrArg some (by kernel_rfl))⟩
  f25 := ⟨Tryd.f71.name, by decide, Tryd.func71.trans (congrArg some (by kernel_rfl))⟩
  f26 := ⟨Tryd.f72.name, by decide, Tryd.func72.trans (congrArg some (by kernel_rfl))⟩
  f27 := ⟨Tryd.f73.name, by decide, Tryd.func73.trans (congrArg some (by kernel_rfl))⟩
  f28 := Tryd.func74.trans (congrArg some (by kernel_rfl))
  f29 := Tryd.func75.trans (congrArg some (by kernel_rfl))
  f46 := ⟨Tryd.f81.name, by decide, Tryd.func81.trans (congrArg some (by kernel_rfl))⟩
  f47 := Tryd.func82.trans (congrArg some (by kernel_rfl))
  f48 := Tryd.func83.trans (congrArg some (by kernel_rfl))
  f49 := ⟨Tryd.f84.name, by decide, Tryd.func84.trans (congrArg some (by kernel_rfl))⟩
  f50 := ⟨Tryd.f85.name, by decide, Tryd.func85.trans (congrArg some (by kernel_rfl))⟩
  f57 := ⟨Tryd.f97.name, by decide, Tryd.func97.trans (congrArg some (by kernel_rfl))⟩
  t0 := Tryd.underlying0
  a0 := Tryd.isAgg0
  z0 := Tryd.sizeOf0
  v0 := Tryd.zeroValue0
  t3 := Tryd.underlying3
  a3 := Tryd.isAgg3
  z3 := Tryd.sizeOf3
  v3 := Tryd.zeroValue3
  t4 := Tryd.underlying4
  a4 := Tryd.isAgg4
  z4 := Tryd.sizeOf4
  v4 := Tryd.zeroValue4
  t5 := Tryd.underlying5
  a5 := Tryd.isAgg5
  z5 := Tryd.sizeOf5
  v5 := Tryd.zeroValue5
  t9 := Tryd.underlying9
  a9 := Tryd.isAgg9
  z9 := Tryd.sizeOf9
  v9 := Tryd.zeroValue9
  t22 := Tryd.underlying41
  a22 := Tryd.isAgg41
  z22 := Tryd.sizeOf41
  v22 := Tryd.zeroValue41
  t25 := Tryd.underlying64
  a25 := Tryd.isAgg64
  z25 := Tryd.sizeOf64
  v25 := Tryd.zeroValue64
  t39 := Tryd.underlying75
  a39 := Tryd.isAgg75
  z39 := Tryd.sizeOf75
  v39 := Tryd.zeroValue75
  t45 := Tryd.underlying88
  a45 := Tryd.isAgg88
  z45 := Tryd.sizeOf88
  v45 := Tryd.zeroValue88
  t46 := Tryd.underlying89
  a46 := Tryd.isAgg89
  z46 := Tryd.sizeOf89
  v46 := Tryd.zeroValue89
  t50 := Tryd.underlying36
  a50 := Tryd.isAgg36
  z50 := Tryd.sizeOf36
  v50 := Tryd.zeroValue36
  t53 := Tryd.underlying95
  a53 := Tryd.isAgg95
  z53 := Tryd.sizeOf95
  v53 := Tryd.zeroValue95
  t55 := Tryd.underlying97
  a55 := Tryd.isAgg97
  z55 := Tryd.sizeOf97
  v55 := Tryd.zeroValue97
  t66 := Tryd.underlying102
  a66 := Tryd.isAgg102
  z66 := Tryd.sizeOf102
  v66 := Tryd.zeroValue102
  t70 := Tryd.underlying106
  a70 := Tryd.isAgg106
  z70 := Tryd.sizeOf106
  v70 := Tryd.zeroValue106
  t76 := Tryd.underlying115
  a76 := Tryd.isAgg115
  z76 := Tryd.sizeOf115
  v76 := Tryd.zeroValue115
  t77 := Tryd.underlying116
  a77 := Tryd.isAgg116
  z77 := Tryd.sizeOf116
  v77 := Tryd.zeroValue116 }
def Tryd.sortEd_ren : Go.Shelf.Ren := ⟨fun | 6 => 61 | 15 => 56 | 14 => 77 | 28 => 74 | 29 => 75 | 20 => 86 | 21 => 87 | 22 => 88 | 23 => 89 | 24 => 90 | 25 => 91 | 26 => 92 | 27 => 93 | 46 => 98 | 47 => 82 | 48 => 83 | 49 => 99 | 50 => 100 | 57 => 102 | n => n, fun | 22 => 22 | 24 => 32 | 25 => 70 | 3 => 3 | 39 => 75 | 0 => 0 | 53 => 95 | 55 => 97 | 4 => 4 | 46 => 89 | 45 => 88 | 50 => 36 | 5 => 5 | 9 => 9 | 66 => 102 | 70 => 106 | 76 => 115 | 77 => 116 | n => n, fun | n => n⟩
theorem Tryd.sortEd : Go.Proofs.SlLaysF0.n6 Tryd.prog Tryd.sortEd_ren := {
  mixed := by kernel_rfl
  f6 := ⟨Tryd.f61.name, by decide, Tryd.func61.trans (congrArg some (by kernel_rfl))⟩
  f14 := ⟨Tryd.f77.name, by decide, Tryd.func77.trans (congrArg some (by kernel_rfl))⟩
  f15 := Tryd.func56.trans (congrArg some (by kernel_rfl))
  f20 := ⟨Tryd.f86.name, by decide, Tryd.func86.trans (congrArg some (by kernel_rfl))⟩
  f21 := ⟨Tryd.f87.name, by decide, Tryd.func87.trans (congrArg some (by kernel_rfl))⟩
  f22 := ⟨Tryd.f88.name, by decide, Tryd.func88.trans (congrArg some (by kernel_rfl))⟩
  f23 := ⟨Tryd.f89.name, by decide, Tryd.func89.trans (congrArg some (by kernel_rfl))⟩
  f24 := ⟨Tryd.f90.name, by decide, Tryd.func90.trans (congrArg some (by kernel_rfl))⟩
  f25 := ⟨Tryd.f91.name, by decide, Tryd.func91.trans (congrArg some (by kernel_rfl))⟩
  f26 := ⟨Tryd.f92.name, by decide, Tryd.func92.trans (congrArg some (by kernel_rfl))⟩
  f27 := ⟨Tryd.f93.name, by decide, Tryd.func93.trans (congrArg some (by kernel_rfl))⟩
  f28 := Tryd.func74.trans (congrArg some (by kernel_rfl))
  f29 := Tryd.func75.trans (congrArg some (by kernel_rfl))
  f46 := ⟨Tryd.f98.name, by decide, Tryd.func98.trans (congrArg some (by kernel_rfl))⟩
  f47 := Tryd.func82.trans (congrArg some (by kernel_rfl))
  f48 := Tryd.func83.trans (congrArg some (by kernel_rfl))
  f49 := ⟨Tryd.f99.name, by decide, Tryd.func99.trans (congrArg some (by kernel_rfl))⟩
  f50 := ⟨Tryd.f100.name, by decide, Tryd.func100.trans (congrArg some (by kernel_rfl))⟩
  f57 := ⟨Tryd.f102.name, by decide, Tryd.func102.trans (congrArg some (by kernel_rfl))⟩
  t0 := Tryd.underlying0
  a0 := Tryd.isAgg0
  z0 := Tryd.sizeOf0
  v0 := Tryd.zeroValue0
  t3 := Tryd.underlying3
  a3 := Tryd.isAgg3
  z3 := Tryd.sizeOf3
  v3 := Tryd.zeroValue3
  t4 := Tryd.underlying4
  a4 := Tryd.isAgg4
  z4 := Tryd.sizeOf4
  v4 := Tryd.zeroValue4
  t5 := Tryd.underlying5
  a5 := Tryd.isAgg5
  z5 := Tryd.sizeOf5
  v5 := Tryd.zeroValue5
  t9 := Tryd.underlying9
  a9 := Tryd.isAgg9
  z9 := Tryd.sizeOf9
  v9 := Tryd.zeroValue9
  t22 := Tryd.underlying22
  a22 := Tryd.isAgg22
  z22 := Tryd.sizeOf22
  v22 := Tryd.zeroValue22
  t25 := Tryd.underlying70
  a25 := Tryd.isAgg70
  z25 := Tryd.sizeOf70
  v25 := Tryd.zeroValue70
  t39 := Tryd.underlying75
  a39 := Tryd.isAgg75
  z39 := Tryd.sizeOf75
  v39 := Tryd.zeroValue75
  t45 := Tryd.underlying88
  a45 := Tryd.isAgg88
  z45 := Tryd.sizeOf88
  v45 := Tryd.zeroValue88
  t46 := Tryd.underlying89
  a46 := Tryd.isAgg89
  z46 := Tryd.sizeOf89
  v46 := Tryd.zeroValue89
  t50 := Tryd.underlying36
  a50 := Tryd.isAgg36
  z50 := Tryd.sizeOf36
  v50 := Tryd.zeroValue36
  t53 := Tryd.underlying95
  a53 := Tryd.isAgg95
  z53 := Tryd.sizeOf95
  v53 := Tryd.zeroValue95
  t55 := Tryd.underlying97
  a55 := Tryd.isAgg97
  z55 := Tryd.sizeOf97
  v55 := Tryd.zeroValue97
  t66 := Tryd.underlying102
  a66 := Tryd.isAgg102
  z66 := Tryd.sizeOf102
  v66 := Tryd.zeroValue102
  t70 := Tryd.underlying106
  a70 := Tryd.isAgg106
  z70 := Tryd.sizeOf106
  v70 := Tryd.zeroValue106
  t76 := Tryd.underlying115
  a76 := Tryd.isAgg115
  z76 := Tryd.sizeOf115
  v76 := Tryd.zeroValue115
  t77 := Tryd.underlying116
  a77 := Tryd.isAgg116
  z77 := Tryd.sizeOf116
  v77 := Tryd.zeroValue116 }
def Tryd.containsNm_ren : Go.Shelf.Ren := ⟨fun | 7 => 33 | 6 => 48 | n => n, fun | 22 => 41 | 24 => 24 | 4 => 4 | 0 => 0 | 3 => 3 | n => n, fun | n => n⟩
theorem Tryd.containsNm : Go.Proofs.SlLaysQ.n7 Tryd.prog Tryd.containsNm_ren := {
  mixed := by kernel_rfl
  f6 := ⟨Tryd.f48.name, by decide, Tryd.func48.trans (congrArg some (by kernel_rfl))⟩
  f7 := ⟨Tryd.f33.name, by decide, Tryd.func33.trans (congrArg some (by kernel_rfl))⟩
  t0 := Tryd.underlying0
  a0 := Tryd.isAgg0
  z0 := Tryd.sizeOf0
  v0 := Tryd.zeroValue0
  t3 := Tryd.underlying3
  a3 := Tryd.isAgg3
  z3 := Tryd.sizeOf3
  v3 := Tryd.zeroValue3
  t4 := Tryd.underlying4
  a4 := Tryd.isAgg4
  z4 := Tryd.sizeOf4
  v4 := Tryd.zeroValue4
  t22 := Tryd.underlying41
  a22 := Tryd.isAgg41
  z22 := Tryd.sizeOf41
  v22 := Tryd.zeroValue41 }
def Tryd.equalEd_ren : Go.Shelf.Ren := ⟨fun | 8 => 41 | n => n, fun | 22 => 22 | 24 => 32 | 4 => 4 | 3 => 3 | 0 => 0 | n => n, fun | n => n⟩
theorem Tryd.equalEd : Go.Proofs.SlLaysQ.n8 Tryd.prog Tryd.equalEd_ren := {
  mixed := by kernel_rfl
  f8 := ⟨Tryd.f41.name, by decide, Tryd.func41.trans (congrArg some (by kernel_rfl))⟩
  t0 := Tryd.underlying0
  a0 := Tryd.isAgg0
  z0 := Tryd.sizeOf0
  v0 := Tryd.zeroValue0
  t3 := Tryd.underlying3
  a3 := Tryd.isAgg3
  z3 := Tryd.sizeOf3
  v3 := Tryd.zeroValue3
  t4 := Tryd.underlying4
  a4 := Tryd.isAgg4
  z4 := Tryd.sizeOf4
  v4 := Tryd.zeroValue4
  t22 := Tryd.underlying22
  a22 := Tryd.isAgg22
  z22 := Tryd.sizeOf22
  v22 := Tryd.zeroValue22 }
def Tryd.cloneEd_ren : Go.Shelf.Ren := ⟨fun | 41 => 60 | n => n, fun | 22 => 22 | 23 => 32 | 4 => 4 | n => n, fun | n => n⟩
theorem Tryd.cloneEd : Go.Proofs.SlLaysE0.n41 Tryd.prog Tryd.cloneEd_ren := {
  mixed := by kernel_rfl
  f41 := ⟨Tryd.f60.name, by decide, Tryd.func60.trans (congrArg some (by kernel_rfl))⟩
  t4 := Tryd.underlying4
  a4 := Tryd.isAgg4
  z4 := Tryd.sizeOf4
  v4 := Tryd.zeroValue4
  t22 := Tryd.underlying22
  a22 := Tryd.isAgg22
  z22 := Tryd.sizeOf22
  v22 := Tryd.zeroValue22 }
end Go.Proofs.YtcfebfblmmbeaaaDoor

/- Sorting edits and names: history.compare, slices.SortFunc, slices.Clone, edit.Sorted. -/
namespace Go.Proofs.YtcfebfblmmbeaaaDoor
open Go Go.RowKit Go.Sort

section
variable {α : Type} {r : α → α → Bool}
theorem Ord.ntr (o : Ord r) {x y z : α} (h : r x y = false) (k : r y z = false) : r x z = false := by
  cases g : r x z
  · rfl
  · exfalso
    cases e : r y x
    · have := o.tot h e; subst this; rw [g] at k; cases k
    · have := o.tr e g; rw [this] at k; cases k
theorem Ord.swo (o : Ord r) : SWO r where
  irrefl x := o.irr x
  trans _x _y _z h k := o.tr h k
  ntrans _x _y _z h k := o.ntr h k
def srtR (r : α → α → Bool) (l : List α) : List α := l.mergeSort fun x y => !r y x
theorem srtR_length (l : List α) : (srtR r l).length = l.length := List.length_mergeSort ..
theorem srtR_perm (l : List α) : (srtR r l).Perm l := List.mergeSort_perm ..
theorem srtR_mem (l : List α) (q : α) : q ∈ srtR r l ↔ q ∈ l := (srtR_perm l).mem_iff
theorem srtR_le (o : Ord r) (l : List α) : LeR r (srtR r l) := by
  have h := List.pairwise_mergeSort (le := fun x y => !r y x) (fun a b c h k => by
    simp only [Bool.not_eq_true'] at *
    exact o.ntr k h) (fun a b => by
    cases h : r b a
    · simp
    · simp [o.asym h]) l
  exact h.imp fun h => by simpa using h
end
theorem ExtD.grow {w w' : World} (h : ExtD w w') : ∃ q os', w' = grow (w.drewN q) os' := by
  obtain ⟨p, hp⟩ := h.nearD
  exact ⟨p.n, p.os, hp⟩
set_option maxHeartbeats 1000000 in
theorem compareNm_any (x y : Nm) (w : World) :
    Calls Tryd.prog 45 #[.agg x.cells.toArray, .agg y.cells.toArray] w fun e w' => e = .returned (.int .i64 (cmpV [x.site, x.seq] [y.site, y.seq])) ∧ ExtD w w' := by
  have hm := mixed
  have hG := nearD_old
  have HC := Lib.hid (show orI (cmpI x.site y.site) (cmpI x.seq y.seq) = cmpV [x.site, x.seq] [y.site, y.seq] by rw [cmpV_cons, cmpV_cons, cmpV_self]; unfold orI; repeat' split <;> omega)
  unfold Nm.cells
  go_enter Tryd.func45, Tryd.ntmps45
  go_wp2
  refine wp_region_nearD_tail 10 (by assumption) (by kernel_rfl) ?_
  simp only [List.take_succ_cons, List.take_zero, List.drop_succ_cons, List.drop_zero]
  repeat (go_big_quiet_step ((go_at_call 58; exact nearD_same (Compare_any _ _ _))))
  refine wpQuiet_nil ?_
  intro w1 hw1
  have HY := Lib.hid (ExtD.of_nearD hw1)
  clear hw1
  go_wp2_with (go_at_call 57; refine (Or_two (cmpI x.site y.site) (cmpI x.seq y.seq) _ _ (by simp [go_sem]) (by simp [go_sem])).mono ?_; rintro e w' ⟨rfl, rfl⟩)
  go_ret
  exact ⟨ret_int HC.out, (((ExtD.refl w).alloc _).alloc _).trans (HY.out.alloc _)⟩
instance : Inhabited Nm := ⟨⟨0, 0⟩⟩
theorem ltNm (x y : Nm) : ltOf (fun x y : Nm => cmpV [x.site, x.seq] [y.site, y.seq]) x y = befN x y := by
  unfold ltOf
  rw [Bool.eq_iff_iff, decide_eq_true_eq]
  exact cmpV_lt
set_option maxHeartbeats 1000000 in
theorem SortNm_any (l : List Nm) (v : Value) (base : Nat) (w : World) (h : w.ownsRow base 24 2 v l.length (rowsN l).flatten) (hb : l.length ≤ 1034834473200) :
    Calls Tryd.prog 44 #[v, .func (.func 45) #[] #[]] w fun e w' => e = .returned (.tuple #[]) ∧ w'.ownsRow base 24 2 v l.length (rowsN (srtR befN l)).flatten ∧ w.grownBy w' v.ownBlock := by
  have hlt : ltOf (fun x y : Nm => cmpV [x.site, x.seq] [y.site, y.seq]) = befN := by funext x y; exact ltNm x y
  rcases h.2 with ⟨rfl, h0⟩ | ⟨g, cap, cur, rfl, hg, hgg, _⟩
  · have hl : l = [] := List.eq_nil_of_length_eq_zero h0
    subst hl
    have hcon := AnyF.slices_SortFunc_none { Tryd.sortNm with } none 0 (.func (.func 45) #[] #[]) w
    exact hcon.mono fun e w' ⟨he, hw⟩ => ⟨he, by subst hw; simpa [srtR] using h, by subst hw; exact grown_refl _ _⟩
  · have eg : ∀ args w, (callFunc 45 args).run Tryd.prog w = .ok (.enter 45 args) w := fun _ _ => by kernel_rfl
    have hcmp : CmpLays Tryd.prog 45 #[] Nm.cells 2 (fun x y : Nm => cmpV [x.site, x.seq] [y.site, y.seq]) g 0 l.toArray.size w := fun m os dk hs x y => (compareNm_any x y _).mono fun e w' hh => ⟨hh.1, hh.2.grow⟩
    have hsz : l.toArray.size < 4611686018427387904 := by simp; omega
    have hcon := AnyQ.slices_SortFunc_total Tryd.sortNm 2 Tryd.isAgg24 Tryd.sizeOf24 Nm.cells (fun _ => rfl) (fun x => x.one) (fun x y : Nm => cmpV [x.site, x.seq] [y.site, y.seq]) (by rw [hlt]; exact ordN.swo) 45 #[] g 0 cap l.toArray w eg hcmp (holds_of_own (enc := Nm.cells) (fun _ => rfl) h rfl) ((Array.getElem?_eq_some_iff.1 hgg).1) hsz (fun x y h1 h2 => by
      rw [hlt] at h1 h2
      exact ordN.tot h1 h2)
    refine hcon.mono fun e w' ⟨he, n, os, hw⟩ => ?_
    have hsl : (l.toArray.toList.mergeSort fun x y => !(ltOf (fun x y : Nm => cmpV [x.site, x.seq] [y.site, y.seq])) y x) = srtR befN l := by
      rw [hlt]; rfl
    rw [hsl] at hw
    obtain ⟨r1, r2⟩ := own_put (enc := Nm.cells) (m := n) (os := os) (d' := srtR befN l) (fun _ => rfl) h rfl (srtR_length l)
    rw [hw]
    exact ⟨he, r1, r2⟩
instance : Inhabited Ed := ⟨⟨⟨0, 0, 0, 0⟩, 0, ⟨⟨0, 0, 0⟩, ⟨0, 0, 0⟩⟩, ⟨0, 0, 0⟩, 0, 0, 0⟩⟩
theorem ltEd (x y : Ed) : ltOf (fun x y : Ed => cmpV (numsE x) (numsE y)) x y = befE x y := by
  unfold ltOf
  rw [Bool.eq_iff_iff, decide_eq_true_eq]
  exact cmpV_lt
set_option maxHeartbeats 1000000 in
theorem SortEd_any (l : List Ed) (v : Value) (base : Nat) (w : World) (h : w.ownsRow base 32 17 v l.length (rowsE l).flatten) (hb : l.length ≤ 1034834473200) :
    Calls Tryd.prog 61 #[v, .func (.func 62) #[] #[]] w fun e w' => e = .returned (.tuple #[]) ∧ w'.ownsRow base 32 17 v l.length (rowsE (srtR befE l)).flatten ∧ w.grownBy w' v.ownBlock := by
  have hlt : ltOf (fun x y : Ed => cmpV (numsE x) (numsE y)) = befE := by funext x y; exact ltEd x y
  rcases h.2 with ⟨rfl, h0⟩ | ⟨g, cap, cur, rfl, hg, hgg, _⟩
  · have hl : l = [] := List.eq_nil_of_length_eq_zero h0
    subst hl
    have hcon := AnyF.slices_SortFunc_none { Tryd.sortEd with } none 0 (.func (.func 62) #[] #[]) w
    exact hcon.mono fun e w' ⟨he, hw⟩ => ⟨he, by subst hw; simpa [srtR] using h, by subst hw; exact grown_refl _ _⟩
  · have eg : ∀ args w, (callFunc 62 args).run Tryd.prog w = .ok (.enter 62 args) w := fun _ _ => by kernel_rfl
    have hcmp : CmpLays Tryd.prog 62 #[] Ed.cells 17 (fun x y : Ed => cmpV (numsE x) (numsE y)) g 0 l.toArray.size w := fun m os dk hs x y => (CompareEd_any x y _).mono fun e w' hh => ⟨hh.1, hh.2.grow⟩
    have hsz : l.toArray.size < 4611686018427387904 := by simp; omega
    have hcon := AnyQ.slices_SortFunc_total Tryd.sortEd 17 Tryd.isAgg32 Tryd.sizeOf32 Ed.cells (fun _ => rfl) (fun x => x.one) (fun x y : Ed => cmpV (numsE x) (numsE y)) (by rw [hlt]; exact ordE.swo) 62 #[] g 0 cap l.toArray w eg hcmp (holds_of_own (enc := Ed.cells) (fun _ => rfl) h rfl) ((Array.getElem?_eq_some_iff.1 hgg).1) hsz (fun x y h1 h2 => by
      rw [hlt] at h1 h2
      exact ordE.tot h1 h2)
    refine hcon.mono fun e w' ⟨he, n, os, hw⟩ => ?_
    have hsl : (l.toArray.toList.mergeSort fun x y => !(ltOf (fun x y : Ed => cmpV (numsE x) (numsE y))) y x) = srtR befE l := by
      rw [hlt]; rfl
    rw [hsl] at hw
    obtain ⟨r1, r2⟩ := own_put (enc := Ed.cells) (m := n) (os := os) (d' := srtR befE l) (fun _ => rfl) h rfl (srtR_length l)
    rw [hw]
    exact ⟨he, r1, r2⟩
/-- It hands back a row of its own that holds l; what was there is as it was. -/
def RetOE (l : List Ed) (w : World) (en : Ending) (w' : World) : Prop :=
  ∃ v, en = .returned v ∧ w'.ownsRow w.heap.size 32 17 v l.length (rowsE l).flatten ∧ Ext w w'
set_option maxHeartbeats 1000000 in
theorem CloneEd_any (A : Option Addr) (c : Nat) (l : List Ed) (w : World) (hs : Sv w w.heap.size 17 A c (rowsE l)) (hb : l.length ≤ 1034834473200) :
    Calls Tryd.prog 60 #[.slice A l.length c] w (RetOE l w) := by
  have qT : ∀ (w : World) (a : Option Addr) (n c n' c' : Nat), (binOp .eql 22 (.slice a n c) (.slice none n' c')).run Tryd.prog w = .ok (.bool a.isNone) w := fun w a n c n' c' => Lib.run_eql_slice_nil w _ _ a n c n' c' Tryd.underlying22
  cases A with
  | none =>
    have hl : l = [] := by
      apply List.eq_nil_of_length_eq_zero
      rcases Nat.eq_zero_or_pos l.length with h | h
      · exact h
      · obtain ⟨_, _, h, _⟩ := hs.mem (by rw [rowsE_length]; exact h)
        cases h
    subst hl
    clear hs
    go_enter Tryd.func60, Tryd.ntmps60
    go_wp2
    go_ret
    exact ⟨_, rfl, World.ownsRow_nil _ _ _ _, Ext.refl _⟩
  | some ad =>
    have hx0 : Ext w (w.alloc (.cells #[] 32)) := (Ext.refl w).alloc _
    have HS := Lib.hid (hs.ext hx0)
    have HX := Lib.hid hx0
    obtain ⟨i0, hi, hz0, hz1, hz2⟩ := info_parts infoEd
    have HI := Lib.hid hi; have HZ := Lib.hid hz0; have HZ1 := Lib.hid hz1; have HZ2 := Lib.hid hz2; clear hi hz0 hz1 hz2 hs hx0
    have HOZ := Lib.hid (show (w.alloc (.cells #[] 32)).ownsRow w.heap.size 32 17 (.slice (some ⟨w.heap.size, 0, none⟩) 0 0) 0 [] from own_of_cur (cur := []) (Nat.le_refl _) (by simpa using heap_alloc_new w (.cells #[] 32)) (Nat.le_refl _) (by decide) (by simp) (by simp))
    go_enter Tryd.func60, Tryd.ntmps60
    go_upto_region 3 with fail
    go_wp2_with (at_builtin; refine wpList_append_sv _ rfl (.tmp 5) (.tmp 6) 22 rfl w.heap.size 32 i0 (.agg #[.int .i64 0, .int .i64 0, .int .i64 0, .int .i64 0, .int .i64 0, .int .i64 0, .int .i64 0, .int .i64 0, .int .i64 0, .int .i64 0, .int .i64 0, .int .i64 0, .int .i64 0, .int .i64 0, .int .i64 0, .int .i64 0, .int .i64 0]) 17 136 Tryd.underlying22 HI.out HZ.out HZ1.out HZ2.out rfl (by decide) _ 0 [] rfl HOZ.out (w.alloc (.cells #[] 32)).heap.size (some ad) l.length c (rowsE l) rfl HS.out (by rw [rowsE_length]) (by unfold maxLen; omega) (by omega) HX.out.size ?_)
    intro v2 w2 g1 g2 _
    have hx2 : Ext w w2 := HX.out.grown g2 (own_low HOZ.out)
    have HG := Lib.hid (show w2.ownsRow w.heap.size 32 17 v2 l.length (rowsE l).flatten by simpa using g1)
    obtain ⟨A1, c1, rfl, _⟩ := own_form HG.out
    have HX2 := Lib.hid hx2
    clear g1 g2 hx2
    go_wp2
    go_ret
    exact ⟨_, rfl, HG.out, HX2.out⟩
def RetSE (l : List Ed) (w : World) (en : Ending) (w' : World) : Prop :=
  ∃ m v, IsOrd l m ∧ en = .returned v ∧ w'.ownsRow w.heap.size 32 17 v m.length (rowsE m).flatten ∧ Ext w w'
set_option maxHeartbeats 1000000 in
theorem SortedEd_any (A : Option Addr) (c : Nat) (l : List Ed) (w : World) (hs : Sv w w.heap.size 17 A c (rowsE l)) (hb : l.length ≤ 1034834473200) :
    Calls Tryd.prog 49 #[.slice A l.length c] w (RetSE l w) := by
  have HC := Lib.hid (CloneEd_any A c l w hs hb)
  clear hs
  go_enter Tryd.func49, Tryd.ntmps49
  go_upto_region 2 with (go_at_call 60; refine HC.out.mono ?_; rintro e w1 ⟨v, rfl, ho, hx⟩)
  have HSO := Lib.hid (SortEd_any l v w.heap.size w1 ho hb)
  have HO := Lib.hid ho; have HX := Lib.hid hx
  clear ho hx
  rcases HO.out.2 with ⟨rfl, h0⟩ | ⟨g, cap, cur, rfl, hg, hgg, _⟩
  · have hl : l = [] := List.eq_nil_of_length_eq_zero h0
    subst hl
    go_upto_region 3 with (go_at_call 61; refine HSO.out.mono ?_; rintro e w2 ⟨rfl, ho2, hg2⟩)
    go_wp2_with (go_at_call 63; refine (CompactEd_none _).mono ?_; rintro e w3 ⟨rfl, rfl⟩)
    go_ret
    exact ⟨[], _, ⟨List.Pairwise.nil, fun q => Iff.rfl⟩, rfl, World.ownsRow_nil _ _ _ _, HX.out.grown hg2 (fun k hk => by simp [Value.ownBlock] at hk)⟩
  · clear hgg
    go_upto_region 3 with (go_at_call 61; refine HSO.out.mono ?_; rintro e w2 ⟨rfl, ho2, hg2⟩)
    have hsl := srtR_length (r := befE) l
    have HCO := Lib.hid (CompactEd_own g cap w.heap.size (srtR befE l) w2 (by rw [hsl]; exact ho2) (srtR_le ordE l) (by omega))
    rw [hsl] at HCO
    have HX2 := Lib.hid (show Ext w w2 from HX.out.grown hg2 (own_low HO.out))
    clear ho2 hg2 hsl
    go_wp2_with (go_at_call 63; refine HCO.out.mono ?_; rintro e w3 ⟨m, h1, h2, rfl, ho3, hg3⟩)
    go_ret
    exact ⟨m, _, ⟨h1, fun q => (h2 q).trans (srtR_mem l q)⟩, rfl, ho3, HX2.out.grown hg3 (fun k hk => by injection hk with hk; omega)⟩
end Go.Proofs.YtcfebfblmmbeaaaDoor

/- A range over a map whose keys are structs, where the map stands still. For every program. -/
namespace Go.Proofs.YtcfebfblmmbeaaaDoor
open Go Go.RowKit

section
variable {P : Program} {K : Type} [DecidableEq K] {t T e : TypeId} {enc : K → Value}
/-- Block r is an iterator over the map in block b; the keys in 'left' are still to come; the key 'last' came last. -/
def RngF (enc : K → Value) (w : World) (b r : Nat) (m : K → Option Value) (left : List K) (last : Option K) : Prop :=
  ∃ es clock seen, ∃ ents : List (K × Value), w.heap[b]? = some (.map es clock) ∧ w.heap[r]? = some (.mapIter (some b) clock seen clock) ∧ es.toList.map (fun e => (e.key, e.val)) = ents.map (fun e => (enc e.1, e.2)) ∧ (ents.map (·.1)).Nodup ∧ (∀ q, lookK ents q = m q) ∧
    (∀ x, x ∈ es.toList → x.born < clock) ∧ (es.toList.map (·.born)).Nodup ∧ left.Nodup ∧
    (∀ q, q ∈ left ↔ ∃ (i : Nat) (x : MapEntry) (v : Value), es[i]? = some x ∧ ents[i]? = some (q, v) ∧ seen.contains x.born = false) ∧
    (∀ q, last = some q → ∃ (i : Nat) (x : MapEntry) (v : Value), es[i]? = some x ∧ ents[i]? = some (q, v) ∧ seen.back? = some x.born)
theorem lookK_at {ents : List (K × Value)} (hn : (ents.map (·.1)).Nodup) {i : Nat} {q : K} {v : Value} (h : ents[i]? = some (q, v)) : lookK ents q = some v := by
  induction ents generalizing i with
  | nil => simp at h
  | cons y ys ih =>
    rw [lookK_cons]
    simp only [List.map_cons, List.nodup_cons] at hn
    cases i with
    | zero =>
      simp only [List.getElem?_cons_zero, Option.some.injEq] at h
      subst h
      rw [if_pos rfl]
    | succ i =>
      simp only [List.getElem?_cons_succ] at h
      rw [if_neg, ih hn.2 h]
      rintro rfl
      exact hn.1 (List.mem_map.2 ⟨_, List.mem_of_getElem? h, rfl⟩)
theorem lookK_in {ents : List (K × Value)} {q : K} {v : Value} (h : lookK ents q = some v) : ∃ i : Nat, ents[i]? = some (q, v) := by
  unfold lookK at h
  obtain ⟨⟨i, u⟩, h1, h2⟩ := Option.map_eq_some_iff.1 h
  simp only at h2
  subst h2
  exact ⟨i, findI_some h1⟩
theorem nodup_at {α β : Type} {f : α → β} : ∀ {l : List α}, (l.map f).Nodup → ∀ {i j : Nat} {x y : α}, l[i]? = some x → l[j]? = some y → f x = f y → i = j := by
  intro l hn i j x y hx hy h
  obtain ⟨hi, rfl⟩ := List.getElem?_eq_some_iff.1 hx
  obtain ⟨hj, rfl⟩ := List.getElem?_eq_some_iff.1 hy
  have h1 := List.getElem_inj (xs := l.map f) (i := i) (j := j) (h₀ := by simpa using hi) (h₁ := by simpa using hj) hn
  rw [List.getElem_map, List.getElem_map] at h1
  exact h1.1 h
theorem RngF.map {w : World} {b r : Nat} {m : K → Option Value} {left : List K} {last : Option K} (h : RngF enc w b r m left last) : MapF enc w b m := by
  obtain ⟨es, clock, seen, ents, h1, h2, h3, h4, h5, h6, h7, _⟩ := h
  exact ⟨es, clock, ents, h1, h3, h4, h5, h6, h7⟩
theorem RngF.lt {w : World} {b r : Nat} {m : K → Option Value} {left : List K} {last : Option K} (h : RngF enc w b r m left last) : r < w.heap.size := by
  obtain ⟨es, clock, seen, ents, h1, h2, _⟩ := h
  exact (Array.getElem?_eq_some_iff.1 h2).1
theorem RngF.kept {w w' : World} {b r : Nat} {m : K → Option Value} {left : List K} {last : Option K} {row : Option Nat} (h : RngF enc w b r m left last) (hg : w.grownBy w' row) (hb : row ≠ some b) (hr : row ≠ some r) : RngF enc w' b r m left last := by
  have hl := h.map.lt
  have hl2 := h.lt
  obtain ⟨es, clock, seen, ents, h1, h2, h3⟩ := h
  exact ⟨es, clock, seen, ents, (hg.block b hl (fun h => hb h.symm)).trans h1, (hg.block r hl2 (fun h => hr h.symm)).trans h2, h3⟩
theorem RngF.ext {w w' : World} {b r : Nat} {m : K → Option Value} {left : List K} {last : Option K} (h : RngF enc w b r m left last) (hx : Ext w w') : RngF enc w' b r m left last := h.kept (hx.by_ none) (by simp) (by simp)
theorem RngF.nodup {w : World} {b r : Nat} {m : K → Option Value} {left : List K} {last : Option K} (h : RngF enc w b r m left last) : left.Nodup := by
  obtain ⟨es, clock, seen, ents, h1, h2, h3, h4, h5, h6, h7, h8, _⟩ := h
  exact h8
theorem RngF.mem {w : World} {b r : Nat} {m : K → Option Value} {left : List K} {last : Option K} (h : RngF enc w b r m left last) {q : K} (hq : q ∈ left) : ∃ v, m q = some v := by
  obtain ⟨es, clock, seen, ents, h1, h2, h3, h4, h5, h6, h7, h8, h9, _⟩ := h
  obtain ⟨i, x, v, _, k2, _⟩ := (h9 q).1 hq
  exact ⟨v, by rw [← h5]; exact lookK_at h4 k2⟩
/-- The iterator is made. -/
theorem MapF.range {w : World} {b : Nat} {m : K → Option Value} (h : MapF enc w b m) (ht : P.underlying T = some (.map t e)) :
    ∃ left : List K, (∀ q, q ∈ left ↔ (m q).isSome = true) ∧ ∃ w', (Instr.range T (.map (some b))).run P w = .ok (.pointer (some ⟨w.heap.size, 0, none⟩)) w' ∧ RngF enc w' b w.heap.size m left none ∧ Ext w w' := by
  have hl := h.lt
  obtain ⟨es, clock, ents, h1, h2, h3, h4, h5, h6⟩ := h
  have hlen : es.toList.length = ents.length := by have := congrArg List.length h2; simpa using this
  refine ⟨ents.map (·.1), fun q => ?_, _, run_range_map w T t e b es clock ht h1, ⟨es, clock, #[], ents, by rw [heap_alloc_old w _ hl]; exact h1, heap_alloc_new w _, h2, h3, h4, h5, h6, h3, fun q => ?_, fun q hq => by cases hq⟩, (Ext.refl w).alloc _⟩
  · rw [← h4, Option.isSome_iff_exists]
    constructor
    · intro hq
      obtain ⟨⟨k, v⟩, hm, rfl⟩ := List.mem_map.1 hq
      obtain ⟨i, hi⟩ := List.getElem?_of_mem hm
      exact ⟨v, lookK_at h3 hi⟩
    · rintro ⟨v, hv⟩
      obtain ⟨i, hi⟩ := lookK_in hv
      exact List.mem_map.2 ⟨_, List.mem_of_getElem? hi, rfl⟩
  · constructor
    · intro hq
      obtain ⟨⟨k, v⟩, hm, rfl⟩ := List.mem_map.1 hq
      obtain ⟨i, hi⟩ := List.getElem?_of_mem hm
      have hil := (List.getElem?_eq_some_iff.1 hi).1
      have hie : i < es.size := by rw [← Array.length_toList, hlen]; exact hil
      exact ⟨i, es[i], v, by simp [hie], hi, by simp⟩
    · rintro ⟨i, x, v, _, k2, _⟩
      exact List.mem_map.2 ⟨_, List.mem_of_getElem? k2, rfl⟩
/-- The step: nothing is left, or a key comes. -/
theorem RngF.next {w : World} {b r : Nat} {m : K → Option Value} {left : List K} {last : Option K} (h : RngF enc w b r m left last) (ty : TypeId) :
    (left = [] ∧ (Instr.next (.pointer (some ⟨r, 0, none⟩)) false ty).run P w = .ok (.tuple #[.bool false]) w) ∨
    ∃ q v w', q ∈ left ∧ m q = some v ∧ (Instr.next (.pointer (some ⟨r, 0, none⟩)) false ty).run P w = .ok (.tuple #[.bool true, enc q, v]) w' ∧ RngF enc w' b r m (left.erase q) (some q) ∧ w.grownBy w' (some r) ∧ w'.heap.size = w.heap.size ∧
      (Instr.entry (.pointer (some ⟨r, 0, none⟩))).run P w' = .ok (.tuple #[enc q, v]) w' := by
  have hl2 := h.lt
  obtain ⟨es, clock, seen, ents, h1, h2, h3, h4, h5, h6, h7, h8, h9, h10⟩ := h
  have hlen : es.toList.length = ents.length := by have := congrArg List.length h3; simpa using this
  have hpair : ∀ (i : Nat) (x : MapEntry), es[i]? = some x → ∃ q, ents[i]? = some (q, x.val) ∧ x.key = enc q := fun i x hx => by
    have hil := (Array.getElem?_eq_some_iff.1 hx).1
    have := congrArg (fun l => l[i]?) h3
    simp only [List.getElem?_map, Array.getElem?_toList, hx, Option.map_some] at this
    obtain ⟨⟨k, v⟩, hk, he⟩ := Option.map_eq_some_iff.1 this.symm
    injection he with e1 e2
    subst e2
    exact ⟨k, hk, e1.symm⟩
  rcases run_next_at (P := P) w ty r b clock clock seen es clock h2 h1 h6 (Nat.le_refl _) with ⟨hz, hrun⟩ | ⟨x, hx, w1, hw1, hrun⟩
  · refine .inl ⟨?_, hrun⟩
    cases hlf : left with
    | nil => rfl
    | cons q qs =>
      exfalso
      obtain ⟨i, x, v, k1, k2, k3⟩ := (h9 q).1 (by rw [hlf]; exact List.mem_cons_self ..)
      have hm : x ∈ (leftOf es seen).toList := by
        unfold leftOf
        simp only [Array.toList_filter, List.mem_filter]
        exact ⟨by rw [← Array.getElem?_toList] at k1; exact List.mem_of_getElem? k1, by rw [k3]; rfl⟩
      have := List.length_pos_of_mem hm
      rw [Array.length_toList, hz] at this
      omega
  · obtain ⟨hxe, hxs⟩ := mem_left hx
    obtain ⟨i, hi⟩ := List.getElem?_of_mem hxe
    rw [Array.getElem?_toList] at hi
    obtain ⟨q, hq, hkey⟩ := hpair i x hi
    have hb1 : w1.heap = w.heap := by rcases hw1 with rfl | rfl <;> rfl
    have hbr : b ≠ r := fun e => by subst e; rw [h1] at h2; cases h2
    have hr' : (ChangeMaps.setBlock w1 r (.mapIter (some b) clock (seen.push x.born) clock)).heap[r]? = some (.mapIter (some b) clock (seen.push x.born) clock) := by
      simp [ChangeMaps.setBlock, hb1, hl2]
    have hb' : (ChangeMaps.setBlock w1 r (.mapIter (some b) clock (seen.push x.born) clock)).heap[b]? = some (.map es clock) := by
      simp only [ChangeMaps.setBlock, hb1, Array.getElem?_setIfInBounds]
      rw [if_neg (Ne.symm hbr)]
      exact h1
    refine .inr ⟨q, x.val, _, (h9 q).2 ⟨i, x, x.val, hi, hq, hxs⟩, by rw [← h5]; exact lookK_at h4 hq, by rw [hrun, hkey], ⟨es, clock, seen.push x.born, ents, hb', hr', h3, h4, h5, h6, h7, h8.erase _, fun p => ?_, fun p hp => ?_⟩, ?_, by simp [ChangeMaps.setBlock, hb1], ?_⟩
    · rw [h8.mem_erase_iff, h9]
      constructor
      · rintro ⟨hpq, j, y, v, k1, k2, k3⟩
        refine ⟨j, y, v, k1, k2, ?_⟩
        rw [contains_push, k3, Bool.false_or, beq_eq_false_iff_ne]
        intro hb
        have := nodup_at h7 (by rw [Array.getElem?_toList]; exact k1) (by rw [Array.getElem?_toList]; exact hi) hb
        subst this
        rw [hq] at k2
        injection k2 with k2
        injection k2 with k2
        exact hpq k2.symm
      · rintro ⟨j, y, v, k1, k2, k3⟩
        rw [contains_push, Bool.or_eq_false_iff, beq_eq_false_iff_ne] at k3
        refine ⟨fun hpq => ?_, j, y, v, k1, k2, k3.1⟩
        subst hpq
        have := nodup_at (f := Prod.fst) h4 k2 hq rfl
        subst this
        rw [hi] at k1
        injection k1 with k1
        exact k3.2 (by rw [k1])
    · injection hp with hp
      subst hp
      exact ⟨i, x, x.val, hi, hq, by simp⟩
    · refine ⟨?_, ?_, ?_, by simp [ChangeMaps.setBlock, hb1], fun k hk hne => ?_⟩
      · rcases hw1 with rfl | rfl <;> rfl
      · rcases hw1 with rfl | rfl <;> rfl
      · rcases hw1 with rfl | rfl <;> rfl
      · simp only [ChangeMaps.setBlock, hb1, Array.getElem?_setIfInBounds]
        rw [if_neg (by rintro rfl; exact hne rfl)]
    · rw [run_entry_at _ r b clock seen es clock x hr' hb' hxe h7, hkey]
/-- The round's key and value, read behind the step. -/
theorem RngF.entry {w : World} {b r : Nat} {m : K → Option Value} {left : List K} {q : K} (h : RngF enc w b r m left (some q)) {v : Value} (hv : m q = some v) :
    (Instr.entry (.pointer (some ⟨r, 0, none⟩))).run P w = .ok (.tuple #[enc q, v]) w := by
  obtain ⟨es, clock, seen, ents, h1, h2, h3, h4, h5, h6, h7, h8, h9, h10⟩ := h
  obtain ⟨i, x, u, k1, k2, k3⟩ := h10 q rfl
  have hv2 : u = v := by
    have := lookK_at h4 k2
    rw [h5, hv] at this
    injection this with this
    exact this.symm
  subst hv2
  have := congrArg (fun l => l[i]?) h3
  simp only [List.getElem?_map, Array.getElem?_toList, k1, k2, Option.map_some, Option.some.injEq, Prod.mk.injEq] at this
  obtain ⟨s', hs⟩ : ∃ s' : Array Nat, seen = s'.push x.born := by
    refine ⟨seen.pop, ?_⟩
    have hne : 0 < seen.size := by
      rcases Nat.eq_zero_or_pos seen.size with h | h
      · rw [Array.eq_empty_of_size_eq_zero h] at k3; simp at k3
      · exact h
    apply Array.ext'
    have k4 : seen.toList.getLast? = some x.born := by simpa [Array.back?, List.getLast?_eq_getElem?] using k3
    rw [Array.toList_push, Array.toList_pop]
    obtain ⟨l0, hl0⟩ := List.getLast?_eq_some_iff.1 k4
    rw [hl0, List.dropLast_concat]
  subst hs
  rw [run_entry_at w r b clock s' es clock x h2 h1 (by rw [← Array.getElem?_toList] at k1; exact List.mem_of_getElem? k1) h7, this.1, this.2]
theorem wpList_range_F {w : World} {ops : Array Oper} {rest : List Oper} {o : Oper} {a : Act} {Q : Exit → Act → World → Prop} (hg : o.guard = none) (mo : Operand) (hop : o.op = .range T mo)
    {b : Nat} {m : K → Option Value} (h : MapF enc w b m) (ht : P.underlying T = some (.map t e)) (hm : a.eval mo = .map (some b))
    (hK : ∀ (left : List K) w', (∀ q, q ∈ left ↔ (m q).isSome = true) → RngF enc w' b w.heap.size m left none → Ext w w' → wpList P ops Q rest (a.put o.dst (.pointer (some ⟨w.heap.size, 0, none⟩))) w') : wpList P ops Q (o :: rest) a w := by
  refine wpList_plain hg fun K' hK' => ?_
  obtain ⟨left, hl, w', hrun, r1, r2⟩ := h.range (P := P) ht
  unfold Oper.wp
  simp [execOp, hop, hm, hrun, Result.andThen]
  exact hK' _ _ (hK left w' hl r1 r2)
theorem wpList_next_F {w : World} {ops : Array Oper} {rest : List Oper} {o : Oper} {a : Act} {Q : Exit → Act → World → Prop} (hg : o.guard = none) (it : Operand) (hop : o.op = .next it false)
    {b r : Nat} {m : K → Option Value} {left : List K} {last : Option K} (h : RngF enc w b r m left last) (hit : a.eval it = .pointer (some ⟨r, 0, none⟩))
    (hDone : left = [] → wpList P ops Q rest (a.put o.dst (.tuple #[.bool false])) w)
    (hMore : ∀ q v w', q ∈ left → m q = some v → RngF enc w' b r m (left.erase q) (some q) → w.grownBy w' (some r) → w'.heap.size = w.heap.size → (Instr.entry (.pointer (some ⟨r, 0, none⟩))).run P w' = .ok (.tuple #[enc q, v]) w' → wpList P ops Q rest (a.put o.dst (.tuple #[.bool true, enc q, v])) w') :
    wpList P ops Q (o :: rest) a w := by
  refine wpList_plain hg fun K' hK' => ?_
  rcases h.next (P := P) o.type with ⟨hl, hrun⟩ | ⟨q, v, w', h1, h2, hrun, h3, h4, h5, h6⟩
  · unfold Oper.wp
    simp [execOp, hop, hit, hrun, Result.andThen]
    exact hK' _ _ (hDone hl)
  · unfold Oper.wp
    simp [execOp, hop, hit, hrun, Result.andThen]
    exact hK' _ _ (hMore q v w' h1 h2 h3 h4 h5 h6)
end
end Go.Proofs.YtcfebfblmmbeaaaDoor
