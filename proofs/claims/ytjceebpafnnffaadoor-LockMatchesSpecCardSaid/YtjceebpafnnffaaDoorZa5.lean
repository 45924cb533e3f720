/- Contracts of the layer of locks, on: the closures, isLock, is; the reference's meet. · A slice literal of one row. · Contract of a filter that appends: voxel/lock.where[voxel/api.Lock]. · Contracts of the layer of locks, on: ContainsFunc, Expire, Owner, Blocks. · Contracts of the layer of locks, on: isLock, is, Blocks. · Contract of slices.IndexFunc and ContainsFunc at rows: Ch. · Contracts of the layer of locks, on: Blocked. · Contracts of the reference's layer of locks: Expire, Owner, Blocks, Blocked. · Contracts of the reference's layer of locks, on: Owner, Blocks, Blocked, Same. · Contracts of the reference's layer of locks, on: Blocked, Same. · Contract of the reference's Same at locks. · Contracts of the reference's layer of edits: Formed, cube, Check. -/
import Derived.Great.BuildSlice
import Derived.Test.YtjceebpafnnffaaDoorZa4
namespace Go.Proofs.YtjceebpafnnffaaDoor
open Go Go.RowKit

def meetR (a b : Bx) : Bool := decide (0 < volP (interB a b))
set_option maxHeartbeats 1000000 in
theorem refmeet_any (a b : Bx) (w : World) :
    Calls Tryd.prog 41 #[.agg #[.int .i64 a.lo.x, .int .i64 a.lo.y, .int .i64 a.lo.z, .int .i64 a.hi.x, .int .i64 a.hi.y, .int .i64 a.hi.z], .agg #[.int .i64 b.lo.x, .int .i64 b.lo.y, .int .i64 b.lo.z, .int .i64 b.hi.x, .int .i64 b.hi.y, .int .i64 b.hi.z]] w fun e w' => e = .returned (.bool (meetR a b)) ∧ Ext w w' := by
  have B0 := Arr.new (w.alloc (.cells #[.int .i64 a.lo.x, .int .i64 a.lo.y, .int .i64 a.lo.z, .int .i64 a.hi.x, .int .i64 a.hi.y, .int .i64 a.hi.z] 28)) 28 [.int .i64 b.lo.x, .int .i64 b.lo.y, .int .i64 b.lo.z, .int .i64 b.hi.x, .int .i64 b.hi.y, .int .i64 b.hi.z]
  have B1 := (Arr.new w 28 [.int .i64 a.lo.x, .int .i64 a.lo.y, .int .i64 a.lo.z, .int .i64 a.hi.x, .int .i64 a.hi.y, .int .i64 a.hi.z]).alloc (.cells #[.int .i64 b.lo.x, .int .i64 b.lo.y, .int .i64 b.lo.z, .int .i64 b.hi.x, .int .i64 b.hi.y, .int .i64 b.hi.z] 28)
  simp only [World.size_alloc_] at B0
  have HB0 := Lib.hid B0; have HB1 := Lib.hid B1
  clear B0 B1
  go_enter Tryd.func41, Tryd.ntmps41
  go_wp2_with (first | (refine wpList_load_blk 28 (.tmp 3) rfl rfl HB1.out rfl _ Tryd.underlying28 rfl (by kernel_rfl) ?_) | (refine wpList_load_blk 28 (.tmp 3) rfl rfl (HB1.out.alloc _) rfl _ Tryd.underlying28 rfl (by kernel_rfl) ?_) | (refine wpList_load_blk 28 (.tmp 3) rfl rfl ((HB1.out.alloc _).alloc _) rfl _ Tryd.underlying28 rfl (by kernel_rfl) ?_) | (refine wpList_load_blk 28 (.tmp 4) rfl rfl HB0.out rfl _ Tryd.underlying28 rfl (by kernel_rfl) ?_) | (refine wpList_load_blk 28 (.tmp 4) rfl rfl (HB0.out.alloc _) rfl _ Tryd.underlying28 rfl (by kernel_rfl) ?_) | (refine wpList_load_blk 28 (.tmp 4) rfl rfl ((HB0.out.alloc _).alloc _) rfl _ Tryd.underlying28 rfl (by kernel_rfl) ?_) | (go_at_call 67; refine (refIntersect_any a b _).mono ?_; rintro e wx ⟨rfl, xx⟩; obtain ⟨xc, xf, xl, xe, xn, xm⟩ := xx.look; have xz := xx.size; (try simp only [World.size_alloc_] at xz); (try (have qh := xx.one (b := w.heap.size) (by (try simp only [World.size_alloc_]); omega); obtain ⟨qc, qf, ql, qe, qn, qm⟩ := qh)); (try (have qh := xx.one (b := w.heap.size + 1) (by (try simp only [World.size_alloc_]); omega); obtain ⟨qc, qf, ql, qe, qn, qm⟩ := qh)); (try (have qh := xx.one (b := w.heap.size + 1 + 1) (by (try simp only [World.size_alloc_]); omega); obtain ⟨qc, qf, ql, qe, qn, qm⟩ := qh)); (try (have qh := xx.one (b := w.heap.size + 1 + 1 + 1) (by (try simp only [World.size_alloc_]); omega); obtain ⟨qc, qf, ql, qe, qn, qm⟩ := qh))) | (go_at_call 66; refine (refVolume_any (interB a b) _).mono ?_; rintro e wx ⟨rfl, xx⟩; obtain ⟨xc, xf, xl, xe, xn, xm⟩ := xx.look; have xz := xx.size; (try simp only [World.size_alloc_, World.size_setCell_] at xz); (try (have qh := xx.one (b := w.heap.size) (by (try simp only [World.size_alloc_, World.size_setCell_]); omega); obtain ⟨qc, qf, ql, qe, qn, qm⟩ := qh)); (try (have qh := xx.one (b := w.heap.size + 1) (by (try simp only [World.size_alloc_, World.size_setCell_]); omega); obtain ⟨qc, qf, ql, qe, qn, qm⟩ := qh)); (try (have qh := xx.one (b := w.heap.size + 1 + 1) (by (try simp only [World.size_alloc_, World.size_setCell_]); omega); obtain ⟨qc, qf, ql, qe, qn, qm⟩ := qh)); (try (have qh := xx.one (b := w.heap.size + 1 + 1 + 1) (by (try simp only [World.size_alloc_, World.size_setCell_]); omega); obtain ⟨qc, qf, ql, qe, qn, qm⟩ := qh))))
  go_ret
  exact ⟨ret_bool (by unfold meetR; rfl), (by repeat (first | with_reducible exact Ext.refl _ | with_reducible assumption | with_reducible refine Ext.alloc ?_ _ | with_reducible refine Ext.drew ?_ | (with_reducible refine Ext.setCell ?_ ?_ _; rotate_left; focus (first | (simp; done) | (simp; omega) | omega)) | (with_reducible refine Ext.setRow ?_ ?_ _; rotate_left; focus (first | (simp; done) | (simp; omega) | omega)) | with_reducible refine Ext.trans ?_ (by with_reducible assumption)))⟩

def oddL (y : Lk) (s : Int) (b : Bx) : Bool := decide (y.site ≠ s) && meetL y.box b
def ownL (y : Lk) (s : Int) : Bool := decide (y.site = s)
set_option maxHeartbeats 2000000 in
theorem Take1_any (y more : Lk) (bm : Nat) (w : World) (hB : Arr w bm 52 more.cells) :
    Calls Tryd.prog 35 #[.agg #[.int .i64 y.site, .int .i64 y.seq, .int .i64 y.til, .int .i64 y.box.lo.x, .int .i64 y.box.lo.y, .int .i64 y.box.lo.z, .int .i64 y.box.hi.x, .int .i64 y.box.hi.y, .int .i64 y.box.hi.z], .pointer (some ⟨bm, 0, none⟩)] w fun e w' => e = .returned (.bool (oddL y more.site more.box)) ∧ Ext w w' := by
  unfold Lk.cells at hB
  have B0 := Arr.new w 52 [.int .i64 y.site, .int .i64 y.seq, .int .i64 y.til, .int .i64 y.box.lo.x, .int .i64 y.box.lo.y, .int .i64 y.box.lo.z, .int .i64 y.box.hi.x, .int .i64 y.box.hi.y, .int .i64 y.box.hi.z]
  have B1 := hB.alloc (.cells #[.int .i64 y.site, .int .i64 y.seq, .int .i64 y.til, .int .i64 y.box.lo.x, .int .i64 y.box.lo.y, .int .i64 y.box.lo.z, .int .i64 y.box.hi.x, .int .i64 y.box.hi.y, .int .i64 y.box.hi.z] 52)
  have C1 := B1.cell
  have l1 := hB.lt
  have HM := Lib.hid (meetL_any y.box more.box)
  have HB0 := Lib.hid B0; have HB1 := Lib.hid B1
  clear B0 B1 hB
  by_cases hs : y.site = more.site
  · have hb : (y.site != more.site) = false := by simpa using hs
    have HS := Lib.hid hs
    clear hs
    go_enter Tryd.func35, Tryd.ntmps35
    go_wp2
    go_ret
    exact ⟨ret_bool (by unfold oddL; simp [HS.out]), (by repeat (first | with_reducible exact Ext.refl _ | with_reducible assumption | with_reducible refine Ext.alloc ?_ _ | with_reducible refine Ext.drew ?_ | (with_reducible refine Ext.setCell ?_ ?_ _; rotate_left; focus (first | (simp; done) | (simp; omega) | omega)) | (with_reducible refine Ext.setRow ?_ ?_ _; rotate_left; focus (first | (simp; done) | (simp; omega) | omega)) | with_reducible refine Ext.trans ?_ (by with_reducible assumption)))⟩
  · have hb : (y.site != more.site) = true := by simpa using hs
    have HS := Lib.hid hs
    clear hs
    go_enter Tryd.func35, Tryd.ntmps35
    go_wp2_with (first | (refine wpList_load_part 28 (.tmp 10) rfl rfl HB0.out 3 [.int .i64 y.box.lo.x, .int .i64 y.box.lo.y, .int .i64 y.box.lo.z, .int .i64 y.box.hi.x, .int .i64 y.box.hi.y, .int .i64 y.box.hi.z] rfl rfl _ Tryd.underlying28 rfl (by kernel_rfl) ?_) | (refine wpList_load_part 28 (.tmp 10) rfl rfl (HB0.out.alloc _) 3 [.int .i64 y.box.lo.x, .int .i64 y.box.lo.y, .int .i64 y.box.lo.z, .int .i64 y.box.hi.x, .int .i64 y.box.hi.y, .int .i64 y.box.hi.z] rfl rfl _ Tryd.underlying28 rfl (by kernel_rfl) ?_) | (refine wpList_load_part 28 (.tmp 12) rfl rfl HB1.out 3 [.int .i64 more.box.lo.x, .int .i64 more.box.lo.y, .int .i64 more.box.lo.z, .int .i64 more.box.hi.x, .int .i64 more.box.hi.y, .int .i64 more.box.hi.z] rfl rfl _ Tryd.underlying28 rfl (by kernel_rfl) ?_) | (refine wpList_load_part 28 (.tmp 12) rfl rfl (HB1.out.alloc _) 3 [.int .i64 more.box.lo.x, .int .i64 more.box.lo.y, .int .i64 more.box.lo.z, .int .i64 more.box.hi.x, .int .i64 more.box.hi.y, .int .i64 more.box.hi.z] rfl rfl _ Tryd.underlying28 rfl (by kernel_rfl) ?_) | (go_at_call 36; refine (HM.out _).mono ?_; rintro e wx ⟨rfl, xx⟩; obtain ⟨xc, xf, xl, xe, xn, xm⟩ := xx.look; have xz := xx.size; (try simp only [World.size_alloc_] at xz); (try (have qh := xx.one (b := w.heap.size) (by (try simp only [World.size_alloc_]); omega); obtain ⟨qc, qf, ql, qe, qn, qm⟩ := qh)); (try (have qh := xx.one (b := w.heap.size + 1) (by (try simp only [World.size_alloc_]); omega); obtain ⟨qc, qf, ql, qe, qn, qm⟩ := qh)); (try (have qh := xx.one (b := w.heap.size + 1 + 1) (by (try simp only [World.size_alloc_]); omega); obtain ⟨qc, qf, ql, qe, qn, qm⟩ := qh)); (try (have qh := xx.one (b := w.heap.size + 1 + 1 + 1) (by (try simp only [World.size_alloc_]); omega); obtain ⟨qc, qf, ql, qe, qn, qm⟩ := qh))))
    go_ret
    exact ⟨ret_bool (by unfold oddL; simp [HS.out]), (by repeat (first | with_reducible exact Ext.refl _ | with_reducible assumption | with_reducible refine Ext.alloc ?_ _ | with_reducible refine Ext.drew ?_ | (with_reducible refine Ext.setCell ?_ ?_ _; rotate_left; focus (first | (simp; done) | (simp; omega) | omega)) | (with_reducible refine Ext.setRow ?_ ?_ _; rotate_left; focus (first | (simp; done) | (simp; omega) | omega)) | with_reducible refine Ext.trans ?_ (by with_reducible assumption)))⟩
set_option maxHeartbeats 2000000 in
theorem Take2_any (y more : Lk) (bm : Nat) (w : World) (hB : Arr w bm 52 more.cells) :
    Calls Tryd.prog 38 #[.agg #[.int .i64 y.site, .int .i64 y.seq, .int .i64 y.til, .int .i64 y.box.lo.x, .int .i64 y.box.lo.y, .int .i64 y.box.lo.z, .int .i64 y.box.hi.x, .int .i64 y.box.hi.y, .int .i64 y.box.hi.z], .pointer (some ⟨bm, 0, none⟩)] w fun e w' => e = .returned (.bool (ownL y more.site)) ∧ Ext w w' := by
  unfold Lk.cells at hB
  have C1 := (hB.alloc (.cells #[.int .i64 y.site, .int .i64 y.seq, .int .i64 y.til, .int .i64 y.box.lo.x, .int .i64 y.box.lo.y, .int .i64 y.box.lo.z, .int .i64 y.box.hi.x, .int .i64 y.box.hi.y, .int .i64 y.box.hi.z] 52)).cell
  have l1 := hB.lt
  clear hB
  go_enter Tryd.func38, Tryd.ntmps38
  go_wp2
  go_ret
  exact ⟨ret_bool (by unfold ownL; rw [Bool.eq_iff_iff]; simp), (by repeat (first | with_reducible exact Ext.refl _ | with_reducible assumption | with_reducible refine Ext.alloc ?_ _ | with_reducible refine Ext.drew ?_ | (with_reducible refine Ext.setCell ?_ ?_ _; rotate_left; focus (first | (simp; done) | (simp; omega) | omega)) | (with_reducible refine Ext.setRow ?_ ?_ _; rotate_left; focus (first | (simp; done) | (simp; omega) | omega)) | with_reducible refine Ext.trans ?_ (by with_reducible assumption)))⟩
set_option maxHeartbeats 2000000 in
theorem Blocked1_any (y : Lk) (s : Int) (bs : Nat) (w : World) (h0 : w.cell? ⟨bs, 0, none⟩ = some (.int .i64 s)) :
    Calls Tryd.prog 44 #[.agg #[.int .i64 y.site, .int .i64 y.seq, .int .i64 y.til, .int .i64 y.box.lo.x, .int .i64 y.box.lo.y, .int .i64 y.box.lo.z, .int .i64 y.box.hi.x, .int .i64 y.box.hi.y, .int .i64 y.box.hi.z], .pointer (some ⟨bs, 0, none⟩)] w fun e w' => e = .returned (.bool (decide (y.site ≠ s))) ∧ Ext w w' := by
  have l1 := World.block_lt_of_cell? w _ h0
  simp only at l1
  go_enter Tryd.func44, Tryd.ntmps44
  go_wp2
  go_ret
  exact ⟨ret_bool (by rw [Bool.eq_iff_iff]; simp), (by repeat (first | with_reducible exact Ext.refl _ | with_reducible assumption | with_reducible refine Ext.alloc ?_ _ | with_reducible refine Ext.drew ?_ | (with_reducible refine Ext.setCell ?_ ?_ _; rotate_left; focus (first | (simp; done) | (simp; omega) | omega)) | (with_reducible refine Ext.setRow ?_ ?_ _; rotate_left; focus (first | (simp; done) | (simp; omega) | omega)) | with_reducible refine Ext.trans ?_ (by with_reducible assumption)))⟩
set_option maxHeartbeats 2000000 in
theorem Owner1_any (y : Lk) (p : Pt) (bp : Nat) (w : World) (hB : Arr w bp 26 [.int .i64 p.x, .int .i64 p.y, .int .i64 p.z]) :
    Calls Tryd.prog 51 #[.agg #[.int .i64 y.site, .int .i64 y.seq, .int .i64 y.til, .int .i64 y.box.lo.x, .int .i64 y.box.lo.y, .int .i64 y.box.lo.z, .int .i64 y.box.hi.x, .int .i64 y.box.hi.y, .int .i64 y.box.hi.z], .pointer (some ⟨bp, 0, none⟩)] w fun e w' => e = .returned (.bool (inP p y.box)) ∧ Ext w w' := by
  have B0 := Arr.new w 52 [.int .i64 y.site, .int .i64 y.seq, .int .i64 y.til, .int .i64 y.box.lo.x, .int .i64 y.box.lo.y, .int .i64 y.box.lo.z, .int .i64 y.box.hi.x, .int .i64 y.box.hi.y, .int .i64 y.box.hi.z]
  have B1 := hB.alloc (.cells #[.int .i64 y.site, .int .i64 y.seq, .int .i64 y.til, .int .i64 y.box.lo.x, .int .i64 y.box.lo.y, .int .i64 y.box.lo.z, .int .i64 y.box.hi.x, .int .i64 y.box.hi.y, .int .i64 y.box.hi.z] 52)
  have HB0 := Lib.hid B0; have HB1 := Lib.hid B1
  clear B0 B1 hB
  go_enter Tryd.func51, Tryd.ntmps51
  go_wp2_with (first | (refine wpList_load_blk 26 (.tmp 1) rfl rfl HB1.out rfl _ Tryd.underlying26 rfl (by kernel_rfl) ?_) | (refine wpList_load_blk 26 (.tmp 1) rfl rfl (HB1.out.alloc _) rfl _ Tryd.underlying26 rfl (by kernel_rfl) ?_) | (refine wpList_load_blk 26 (.tmp 1) rfl rfl ((HB1.out.alloc _).alloc _) rfl _ Tryd.underlying26 rfl (by kernel_rfl) ?_) | (refine wpList_load_part 28 (.tmp 5) rfl rfl HB0.out 3 [.int .i64 y.box.lo.x, .int .i64 y.box.lo.y, .int .i64 y.box.lo.z, .int .i64 y.box.hi.x, .int .i64 y.box.hi.y, .int .i64 y.box.hi.z] rfl rfl _ Tryd.underlying28 rfl (by kernel_rfl) ?_) | (refine wpList_load_part 28 (.tmp 5) rfl rfl (HB0.out.alloc _) 3 [.int .i64 y.box.lo.x, .int .i64 y.box.lo.y, .int .i64 y.box.lo.z, .int .i64 y.box.hi.x, .int .i64 y.box.hi.y, .int .i64 y.box.hi.z] rfl rfl _ Tryd.underlying28 rfl (by kernel_rfl) ?_) | (go_at_call 48; refine (In_any p y.box _).mono ?_; rintro e wx ⟨rfl, xx⟩; obtain ⟨xc, xf, xl, xe, xn, xm⟩ := xx.look; have xz := xx.size; (try simp only [World.size_alloc_] at xz); (try (have qh := xx.one (b := w.heap.size) (by (try simp only [World.size_alloc_]); omega); obtain ⟨qc, qf, ql, qe, qn, qm⟩ := qh)); (try (have qh := xx.one (b := w.heap.size + 1) (by (try simp only [World.size_alloc_]); omega); obtain ⟨qc, qf, ql, qe, qn, qm⟩ := qh)); (try (have qh := xx.one (b := w.heap.size + 1 + 1) (by (try simp only [World.size_alloc_]); omega); obtain ⟨qc, qf, ql, qe, qn, qm⟩ := qh)); (try (have qh := xx.one (b := w.heap.size + 1 + 1 + 1) (by (try simp only [World.size_alloc_]); omega); obtain ⟨qc, qf, ql, qe, qn, qm⟩ := qh))))
  go_ret
  exact ⟨rfl, (by repeat (first | with_reducible exact Ext.refl _ | with_reducible assumption | with_reducible refine Ext.alloc ?_ _ | with_reducible refine Ext.drew ?_ | (with_reducible refine Ext.setCell ?_ ?_ _; rotate_left; focus (first | (simp; done) | (simp; omega) | omega)) | (with_reducible refine Ext.setRow ?_ ?_ _; rotate_left; focus (first | (simp; done) | (simp; omega) | omega)) | with_reducible refine Ext.trans ?_ (by with_reducible assumption)))⟩
structure Chg where
  at_ : Pt
  old : Int
  new : Int
  deriving DecidableEq
def Chg.cells (x : Chg) : List Value := [.int .i64 x.at_.x, .int .i64 x.at_.y, .int .i64 x.at_.z, .int .i64 x.old, .int .i64 x.new]
set_option maxHeartbeats 2000000 in
theorem Blocked21_any (y : Lk) (x : Chg) (bp : Nat) (w : World) (hB : Arr w bp 54 x.cells) :
    Calls Tryd.prog 47 #[.agg #[.int .i64 y.site, .int .i64 y.seq, .int .i64 y.til, .int .i64 y.box.lo.x, .int .i64 y.box.lo.y, .int .i64 y.box.lo.z, .int .i64 y.box.hi.x, .int .i64 y.box.hi.y, .int .i64 y.box.hi.z], .pointer (some ⟨bp, 0, none⟩)] w fun e w' => e = .returned (.bool (inP x.at_ y.box)) ∧ Ext w w' := by
  unfold Chg.cells at hB
  have B0 := Arr.new w 52 [.int .i64 y.site, .int .i64 y.seq, .int .i64 y.til, .int .i64 y.box.lo.x, .int .i64 y.box.lo.y, .int .i64 y.box.lo.z, .int .i64 y.box.hi.x, .int .i64 y.box.hi.y, .int .i64 y.box.hi.z]
  have B1 := hB.alloc (.cells #[.int .i64 y.site, .int .i64 y.seq, .int .i64 y.til, .int .i64 y.box.lo.x, .int .i64 y.box.lo.y, .int .i64 y.box.lo.z, .int .i64 y.box.hi.x, .int .i64 y.box.hi.y, .int .i64 y.box.hi.z] 52)
  have HB0 := Lib.hid B0; have HB1 := Lib.hid B1
  clear B0 B1 hB
  go_enter Tryd.func47, Tryd.ntmps47
  go_wp2_with (first | (refine wpList_load_part 26 (.tmp 4) rfl rfl HB1.out 0 [.int .i64 x.at_.x, .int .i64 x.at_.y, .int .i64 x.at_.z] rfl rfl _ Tryd.underlying26 rfl (by kernel_rfl) ?_) | (refine wpList_load_part 26 (.tmp 4) rfl rfl (HB1.out.alloc _) 0 [.int .i64 x.at_.x, .int .i64 x.at_.y, .int .i64 x.at_.z] rfl rfl _ Tryd.underlying26 rfl (by kernel_rfl) ?_) | (refine wpList_load_part 28 (.tmp 6) rfl rfl HB0.out 3 [.int .i64 y.box.lo.x, .int .i64 y.box.lo.y, .int .i64 y.box.lo.z, .int .i64 y.box.hi.x, .int .i64 y.box.hi.y, .int .i64 y.box.hi.z] rfl rfl _ Tryd.underlying28 rfl (by kernel_rfl) ?_) | (refine wpList_load_part 28 (.tmp 6) rfl rfl (HB0.out.alloc _) 3 [.int .i64 y.box.lo.x, .int .i64 y.box.lo.y, .int .i64 y.box.lo.z, .int .i64 y.box.hi.x, .int .i64 y.box.hi.y, .int .i64 y.box.hi.z] rfl rfl _ Tryd.underlying28 rfl (by kernel_rfl) ?_) | (go_at_call 48; refine (In_any x.at_ y.box _).mono ?_; rintro e wx ⟨rfl, xx⟩; obtain ⟨xc, xf, xl, xe, xn, xm⟩ := xx.look; have xz := xx.size; (try simp only [World.size_alloc_] at xz); (try (have qh := xx.one (b := w.heap.size) (by (try simp only [World.size_alloc_]); omega); obtain ⟨qc, qf, ql, qe, qn, qm⟩ := qh)); (try (have qh := xx.one (b := w.heap.size + 1) (by (try simp only [World.size_alloc_]); omega); obtain ⟨qc, qf, ql, qe, qn, qm⟩ := qh)); (try (have qh := xx.one (b := w.heap.size + 1 + 1) (by (try simp only [World.size_alloc_]); omega); obtain ⟨qc, qf, ql, qe, qn, qm⟩ := qh)); (try (have qh := xx.one (b := w.heap.size + 1 + 1 + 1) (by (try simp only [World.size_alloc_]); omega); obtain ⟨qc, qf, ql, qe, qn, qm⟩ := qh))))
  go_ret
  exact ⟨rfl, (by repeat (first | with_reducible exact Ext.refl _ | with_reducible assumption | with_reducible refine Ext.alloc ?_ _ | with_reducible refine Ext.drew ?_ | (with_reducible refine Ext.setCell ?_ ?_ _; rotate_left; focus (first | (simp; done) | (simp; omega) | omega)) | (with_reducible refine Ext.setRow ?_ ?_ _; rotate_left; focus (first | (simp; done) | (simp; omega) | omega)) | with_reducible refine Ext.trans ?_ (by with_reducible assumption)))⟩
def oddV (y x : Lk) : Bool := decide (y.site ≠ x.site) && meetL x.box y.box
set_option maxHeartbeats 2000000 in
theorem Valid1_any (y x : Lk) (bm : Nat) (w : World) (hB : Arr w bm 52 x.cells) :
    Calls Tryd.prog 53 #[.agg #[.int .i64 y.site, .int .i64 y.seq, .int .i64 y.til, .int .i64 y.box.lo.x, .int .i64 y.box.lo.y, .int .i64 y.box.lo.z, .int .i64 y.box.hi.x, .int .i64 y.box.hi.y, .int .i64 y.box.hi.z], .pointer (some ⟨bm, 0, none⟩)] w fun e w' => e = .returned (.bool (oddV y x)) ∧ Ext w w' := by
  unfold Lk.cells at hB
  have B0 := Arr.new w 52 [.int .i64 y.site, .int .i64 y.seq, .int .i64 y.til, .int .i64 y.box.lo.x, .int .i64 y.box.lo.y, .int .i64 y.box.lo.z, .int .i64 y.box.hi.x, .int .i64 y.box.hi.y, .int .i64 y.box.hi.z]
  have B1 := hB.alloc (.cells #[.int .i64 y.site, .int .i64 y.seq, .int .i64 y.til, .int .i64 y.box.lo.x, .int .i64 y.box.lo.y, .int .i64 y.box.lo.z, .int .i64 y.box.hi.x, .int .i64 y.box.hi.y, .int .i64 y.box.hi.z] 52)
  have C1 := B1.cell
  have l1 := hB.lt
  have HM := Lib.hid (meetL_any x.box y.box)
  have HB0 := Lib.hid B0; have HB1 := Lib.hid B1
  clear B0 B1 hB
  by_cases hs : y.site = x.site
  · have hb : (y.site != x.site) = false := by simpa using hs
    have HS := Lib.hid hs
    clear hs
    go_enter Tryd.func53, Tryd.ntmps53
    go_wp2
    go_ret
    exact ⟨ret_bool (by unfold oddV; simp [HS.out]), (by repeat (first | with_reducible exact Ext.refl _ | with_reducible assumption | with_reducible refine Ext.alloc ?_ _ | with_reducible refine Ext.drew ?_ | (with_reducible refine Ext.setCell ?_ ?_ _; rotate_left; focus (first | (simp; done) | (simp; omega) | omega)) | (with_reducible refine Ext.setRow ?_ ?_ _; rotate_left; focus (first | (simp; done) | (simp; omega) | omega)) | with_reducible refine Ext.trans ?_ (by with_reducible assumption)))⟩
  · have hb : (y.site != x.site) = true := by simpa using hs
    have HS := Lib.hid hs
    clear hs
    go_enter Tryd.func53, Tryd.ntmps53
    go_wp2_with (first | (refine wpList_load_part 28 (.tmp 12) rfl rfl HB0.out 3 [.int .i64 y.box.lo.x, .int .i64 y.box.lo.y, .int .i64 y.box.lo.z, .int .i64 y.box.hi.x, .int .i64 y.box.hi.y, .int .i64 y.box.hi.z] rfl rfl _ Tryd.underlying28 rfl (by kernel_rfl) ?_) | (refine wpList_load_part 28 (.tmp 12) rfl rfl (HB0.out.alloc _) 3 [.int .i64 y.box.lo.x, .int .i64 y.box.lo.y, .int .i64 y.box.lo.z, .int .i64 y.box.hi.x, .int .i64 y.box.hi.y, .int .i64 y.box.hi.z] rfl rfl _ Tryd.underlying28 rfl (by kernel_rfl) ?_) | (refine wpList_load_part 28 (.tmp 10) rfl rfl HB1.out 3 [.int .i64 x.box.lo.x, .int .i64 x.box.lo.y, .int .i64 x.box.lo.z, .int .i64 x.box.hi.x, .int .i64 x.box.hi.y, .int .i64 x.box.hi.z] rfl rfl _ Tryd.underlying28 rfl (by kernel_rfl) ?_) | (refine wpList_load_part 28 (.tmp 10) rfl rfl (HB1.out.alloc _) 3 [.int .i64 x.box.lo.x, .int .i64 x.box.lo.y, .int .i64 x.box.lo.z, .int .i64 x.box.hi.x, .int .i64 x.box.hi.y, .int .i64 x.box.hi.z] rfl rfl _ Tryd.underlying28 rfl (by kernel_rfl) ?_) | (go_at_call 36; refine (HM.out _).mono ?_; rintro e wx ⟨rfl, xx⟩; obtain ⟨xc, xf, xl, xe, xn, xm⟩ := xx.look; have xz := xx.size; (try simp only [World.size_alloc_] at xz); (try (have qh := xx.one (b := w.heap.size) (by (try simp only [World.size_alloc_]); omega); obtain ⟨qc, qf, ql, qe, qn, qm⟩ := qh)); (try (have qh := xx.one (b := w.heap.size + 1) (by (try simp only [World.size_alloc_]); omega); obtain ⟨qc, qf, ql, qe, qn, qm⟩ := qh)); (try (have qh := xx.one (b := w.heap.size + 1 + 1) (by (try simp only [World.size_alloc_]); omega); obtain ⟨qc, qf, ql, qe, qn, qm⟩ := qh)); (try (have qh := xx.one (b := w.heap.size + 1 + 1 + 1) (by (try simp only [World.size_alloc_]); omega); obtain ⟨qc, qf, ql, qe, qn, qm⟩ := qh))))
    go_ret
    exact ⟨ret_bool (by unfold oddV; simp [HS.out]), (by repeat (first | with_reducible exact Ext.refl _ | with_reducible assumption | with_reducible refine Ext.alloc ?_ _ | with_reducible refine Ext.drew ?_ | (with_reducible refine Ext.setCell ?_ ?_ _; rotate_left; focus (first | (simp; done) | (simp; omega) | omega)) | (with_reducible refine Ext.setRow ?_ ?_ _; rotate_left; focus (first | (simp; done) | (simp; omega) | omega)) | with_reducible refine Ext.trans ?_ (by with_reducible assumption)))⟩
set_option maxHeartbeats 2000000 in
theorem Valid2_any (y x : Lk) (bm : Nat) (w : World) (hB : Arr w bm 52 x.cells) :
    Calls Tryd.prog 54 #[.agg #[.int .i64 y.site, .int .i64 y.seq, .int .i64 y.til, .int .i64 y.box.lo.x, .int .i64 y.box.lo.y, .int .i64 y.box.lo.z, .int .i64 y.box.hi.x, .int .i64 y.box.hi.y, .int .i64 y.box.hi.z], .pointer (some ⟨bm, 0, none⟩)] w fun e w' => e = .returned (.bool (ownL y x.site)) ∧ Ext w w' := by
  unfold Lk.cells at hB
  have C1 := (hB.alloc (.cells #[.int .i64 y.site, .int .i64 y.seq, .int .i64 y.til, .int .i64 y.box.lo.x, .int .i64 y.box.lo.y, .int .i64 y.box.lo.z, .int .i64 y.box.hi.x, .int .i64 y.box.hi.y, .int .i64 y.box.hi.z] 52)).cell
  have l1 := hB.lt
  clear hB
  go_enter Tryd.func54, Tryd.ntmps54
  go_wp2
  go_ret
  exact ⟨ret_bool (by unfold ownL; rw [Bool.eq_iff_iff]; simp), (by repeat (first | with_reducible exact Ext.refl _ | with_reducible assumption | with_reducible refine Ext.alloc ?_ _ | with_reducible refine Ext.drew ?_ | (with_reducible refine Ext.setCell ?_ ?_ _; rotate_left; focus (first | (simp; done) | (simp; omega) | omega)) | (with_reducible refine Ext.setRow ?_ ?_ _; rotate_left; focus (first | (simp; done) | (simp; omega) | omega)) | with_reducible refine Ext.trans ?_ (by with_reducible assumption)))⟩
end Go.Proofs.YtjceebpafnnffaaDoor

namespace Go.Proofs.YtjceebpafnnffaaDoor
open Go Go.RowKit

theorem wpList_buildRow {P : Program} {ops : Array Oper} {rest : List Oper} {o : Oper} {a : Act} {w : World} {Q : Exit → Act → World → Prop} (hg : o.guard = none) (t e : TypeId) (s : Nat) (ho : o.op = .buildSlice t 1 #[(0, .tmp s)])
    (k : Nat) (hk : 0 < k) (hk2 : k ≤ 1000) (x : List Value) (hx : x.length = k) (hs : a.eval (.tmp s) = .agg x.toArray) (hu : P.underlying t = some (.slice e)) (hi : (P.info? e).map (·.size) = some k) (hz : ((P.info? e).bind (·.zero)).isSome = true)
    (h : wpList P ops Q rest (a.put o.dst (.slice (some ⟨w.heap.size, 0, none⟩) 1 1)) (w.alloc (.cells x.toArray e))) : wpList P ops Q (o :: rest) a w := by
  cases hie : P.info? e with
  | none => simp [hie] at hi
  | some ie =>
    have hsz : ie.size = k := by simpa [hie] using hi
    obtain ⟨z, hzz⟩ := Option.isSome_iff_exists.1 (by simpa [hie] using hz : (ie.zero).isSome = true)
    refine wpList_buildSlice hg t e 1 _ ho _ ie z hu hie hzz (by rw [hsz]; omega) (by rw [hsz]; omega) ?_ h
    have hf := Great.fill_whole (s := k) hk [.agg x.toArray] ((Array.range (1 * k)).map (z.cells[· % z.cells.size]!)) (fun v hv => by
      simp only [List.mem_singleton] at hv
      subst hv
      simpa [Value.cells] using hx) (by simp)
    rw [hsz]
    simp only [List.map_toArray, List.map_cons, List.map_nil, hs]
    simpa [Value.cells] using hf
end Go.Proofs.YtjceebpafnnffaaDoor

namespace Go.Proofs.YtjceebpafnnffaaDoor
open Go Go.RowKit

theorem infoLk : (Tryd.prog.info? 52).map (fun i => (i.zero, i.size, i.bytes)) = some (some (.agg #[.int .i64 0, .int .i64 0, .int .i64 0, .int .i64 0, .int .i64 0, .int .i64 0, .int .i64 0, .int .i64 0, .int .i64 0]), 9, 72) := by kernel_rfl
set_option maxRecDepth 100000 in
set_option maxHeartbeats 2000000 in
theorem whereLk (A : Option Addr) (c : Nat) (xs : List (List Value)) (w : World) (hs : Sv w w.heap.size 9 A c xs) (hb : xs.length ≤ 1000000) (g : FuncId) (fa lb : Array Value) (p : List Value → Bool) (hp : PredF Tryd.prog g fa lb p xs w) :
    Calls Tryd.prog 37 #[.slice A xs.length c, .func (.func g) fa lb] w (RetRow 52 9 (xs.filter p) w) := by
  have hln := hs.len
  have HS := Lib.hid hs; clear hs
  have eg := hp.enters
  have HP := Lib.hid hp; clear hp
  obtain ⟨i0, hi, hz0, hz1, hz2⟩ := info_parts infoLk
  have HI := Lib.hid hi; have HZ := Lib.hid hz0; have HZ1 := Lib.hid hz1; have HZ2 := Lib.hid hz2; clear hi hz0 hz1 hz2
  go_enter Tryd.func37, Tryd.ntmps37
  go_wp2
  go_loopw [5, 10] (fun v i wr => ∃ j : Nat, j ≤ xs.length ∧ i = .int .i64 j ∧ wr.ownsRow w.heap.size 52 9 v ((xs.take j).filter p).length ((xs.take j).filter p).flatten ∧ Ext w wr) (fun _ i _ => xs.length - (intOf i).toNat)
  case atStart => exact ⟨0, Nat.zero_le _, rfl, World.ownsRow_nil _ _ _ _, Ext.refl _⟩
  case round =>
    obtain ⟨j, hj, rfl, ho, hx⟩ := hrel
    have HO := Lib.hid ho; clear ho
    by_cases hlt : j < xs.length
    · obtain ⟨x, hxj⟩ : ∃ x, xs[j]? = some x := ⟨_, List.getElem?_eq_getElem hlt⟩
      have hmem := List.mem_of_getElem? hxj
      have hxl := (HS.out.rows x hmem).1
      have HL := Lib.hid hxl
      have HE := Lib.hid (HS.out.rows x hmem).2
      have HE2 := Lib.hid (show x.all (·.oneCell') = true from by simpa using (HS.out.rows x hmem).2)
      obtain ⟨b', off, rfl, hbl, hrow⟩ := (HS.out.ext hx).row hxj
      have HR := Lib.hid hrow
      have hst := take_filter_step (p := p) hxj
      have HST := Lib.hid hst
      have hfl := filter_take_le p xs j
      have HL1 := Lib.hid (show x.length = 1 * 9 by rw [hxl])
      have HM1 := Lib.hid (show ((xs.take j).filter p).length + 1 ≤ maxLen by unfold maxLen; omega)
      have HM2 := Lib.hid (show (((xs.take j).filter p).length + 1) * 72 ≤ 140737488355328 by omega)
      clear hfl
      clear hrow hxj hst hxl
      have B0 := Arr.new wr 52 ([.int .i64 0, .int .i64 0, .int .i64 0, .int .i64 0, .int .i64 0, .int .i64 0, .int .i64 0, .int .i64 0, .int .i64 0])
      have B1 := B0.setRow x
      have hx1 : Ext w ((wr.alloc (.cells ([.int .i64 0, .int .i64 0, .int .i64 0, .int .i64 0, .int .i64 0, .int .i64 0, .int .i64 0, .int .i64 0, .int .i64 0]).toArray 52)).setRow wr.heap.size x.toArray) := (hx.alloc _).setRow hx.size _
      have HX1 := Lib.hid hx1
      have HC := Lib.hid (HP.out.call x hmem _ hx1)
      clear hx1 hmem
      cases hq : p x with
      | false =>
        rw [hq] at HC
        rw [hq] at HST
        go_wp2_with (first
          | (with_reducible refine wpList_load_mid rfl 52 (.tmp 12) rfl b' (off + j * 9) rfl x _ HR.out Tryd.underlying52 rfl (HL.out ▸ (by kernel_rfl)) ?_)
          | (refine wpList_store_blk 52 (.tmp 7) (.tmp 13) rfl rfl B0 x rfl rfl (HL.out ▸ (by kernel_rfl)) (HL.out ▸ rfl) HE2.out ?_)
          | (refine wpList_load_blk 52 (.tmp 7) rfl rfl B1 rfl _ Tryd.underlying52 rfl (HL.out ▸ (by kernel_rfl)) ?_)
          | (go_at_fn g; refine HC.out.mono ?_; rintro e w' ⟨rfl, hy⟩))
        go_roundw
        case rel => exact ⟨j + 1, by omega, by go_num, by rw [HST.out]; simpa using own_ext HO.out (((Ext.refl wr).alloc _ |>.setRow (Nat.le_refl _) _).trans hy), HX1.out.trans hy⟩
        case measure => simp [intOf]; omega
      | true =>
        rw [hq] at HC
        rw [hq] at HST
        go_wp2_with (first
          | (with_reducible refine wpList_load_mid rfl 52 (.tmp 12) rfl b' (off + j * 9) rfl x _ HR.out Tryd.underlying52 rfl (HL.out ▸ (by kernel_rfl)) ?_)
          | (refine wpList_store_blk 52 (.tmp 7) (.tmp 13) rfl rfl B0 x rfl rfl (HL.out ▸ (by kernel_rfl)) (HL.out ▸ rfl) HE2.out ?_)
          | (refine wpList_load_blk 52 (.tmp 7) rfl rfl B1 rfl _ Tryd.underlying52 rfl (HL.out ▸ (by kernel_rfl)) ?_)
          | (go_at_fn g; refine HC.out.mono ?_; rintro e w' ⟨rfl, hy⟩; have B2 := B1.ext hy)
          | (refine wpList_load_blk 52 (.tmp 7) rfl rfl B2 rfl _ Tryd.underlying52 rfl (HL.out ▸ (by kernel_rfl)) ?_)
          | (refine wpList_buildRow rfl 22 52 18 rfl 9 (by decide) (by decide) x HL.out rfl Tryd.underlying22 (by kernel_rfl) (by kernel_rfl) ?_)
          | (at_builtin; refine wpList_append_own _ rfl _ _ 22 rfl w.heap.size 52 i0 (.agg #[.int .i64 0, .int .i64 0, .int .i64 0, .int .i64 0, .int .i64 0, .int .i64 0, .int .i64 0, .int .i64 0, .int .i64 0]) 9 72 Tryd.underlying22 HI.out HZ.out HZ1.out HZ2.out rfl (by decide) _ ((xs.take j).filter p).length ((xs.take j).filter p).flatten rfl (own_ext HO.out (Ext.alloc (Ext.trans (Ext.setRow (Ext.alloc (Ext.refl wr) _) (Nat.le_refl _) _) hy) _)) ⟨w'.heap.size, 0, none⟩ 1 1 x rfl HL1.out ?_ HE.out HM1.out HM2.out ?_ ?_))
        · intro j2 u hu
          rw [add_lit, Nat.zero_add, cell_of_row _ _ _ _ _ _ (heap_alloc_new w' _)]
          simpa using hu
        · have h1 := (HX1.out.trans hy).size
          simp only [World.size_alloc_]
          omega
        intro v' w2 g1 g2 _
        have HO2 := Lib.hid g1
        have HX2 := Lib.hid (((HX1.out.trans hy).alloc _).grown g2 (own_low (own_ext HO.out (Ext.alloc (Ext.trans (Ext.setRow (Ext.alloc (Ext.refl wr) _) (Nat.le_refl _) _) hy) (.cells x.toArray 52)))))
        clear g1 g2
        go_wp2
        go_roundw
        case rel =>
          refine ⟨j + 1, by omega, by go_num, ?_, HX2.out⟩
          rw [HST.out]
          simpa using HO2.out
        case measure => simp [intOf]; omega
    · obtain rfl : j = xs.length := by omega
      go_wp2
      go_ret
      have ho := HO.out
      rw [List.take_length] at ho
      obtain ⟨A', c', rfl, _, _⟩ := own_form ho
      exact ⟨A', c', rfl, ho, hx⟩
end Go.Proofs.YtjceebpafnnffaaDoor

namespace Go.Proofs.YtjceebpafnnffaaDoor
open Go Go.RowKit

def ofRow : List Value → Lk
  | [.int _ a, .int _ b, .int _ c, .int _ d, .int _ e, .int _ f, .int _ g, .int _ h, .int _ i] => ⟨a, b, c, ⟨⟨d, e, f⟩, ⟨g, h, i⟩⟩⟩
  | _ => ⟨0, 0, 0, zeroBx⟩
theorem ofRow_cells (x : Lk) : ofRow x.cells = x := rfl
def rowsL (ls : List Lk) : List (List Value) := ls.map Lk.cells
theorem rowsL_length (ls : List Lk) : (rowsL ls).length = ls.length := by simp [rowsL]
theorem rowsL_rwk (ls : List Lk) : Rwk 9 (rowsL ls) := fun x hx => by
  obtain ⟨y, _, rfl⟩ := List.mem_map.1 hx
  refine ⟨rfl, fun u hu => ?_⟩
  simp only [Lk.cells, List.mem_cons, List.not_mem_nil, or_false] at hu
  rcases hu with rfl | rfl | rfl | rfl | rfl | rfl | rfl | rfl | rfl <;> rfl
theorem rowsL_filter (f : Lk → Bool) (ls : List Lk) : (rowsL ls).filter (fun r => f (ofRow r)) = rowsL (ls.filter f) := by
  unfold rowsL
  rw [List.filter_map]
  congr 1
def idxL (f : Lk → Bool) (ls : List Lk) : Int := match ls.findIdx? f with | some i => i | none => -1
theorem idx_rows (f : Lk → Bool) (ls : List Lk) : idx (fun r => f (ofRow r)) (rowsL ls) = idxL f ls := by
  unfold idx idxL rowsL
  rw [List.findIdx?_map]
  rfl
theorem idxL_some {f : Lk → Bool} {ls : List Lk} {i : Nat} (h : ls.findIdx? f = some i) : idxL f ls = i := by unfold idxL; rw [h]
theorem idxL_none {f : Lk → Bool} {ls : List Lk} (h : ls.findIdx? f = none) : idxL f ls = -1 := by unfold idxL; rw [h]
/-- A function value that answers f of each lock. -/
theorem predL {g : FuncId} {fa lb : Array Value} (f : Lk → Bool) (ls : List Lk) (w : World) (eg : ∀ args w, (callFunc g args).run Tryd.prog w = .ok (.enter g args) w)
    (h : ∀ y, y ∈ ls → ∀ w', Ext w w' → Calls Tryd.prog g (fa ++ #[.agg #[.int .i64 y.site, .int .i64 y.seq, .int .i64 y.til, .int .i64 y.box.lo.x, .int .i64 y.box.lo.y, .int .i64 y.box.lo.z, .int .i64 y.box.hi.x, .int .i64 y.box.hi.y, .int .i64 y.box.hi.z]] ++ lb) w' fun e w'' => e = .returned (.bool (f y)) ∧ Ext w' w'') : PredF Tryd.prog g fa lb (fun r => f (ofRow r)) (rowsL ls) w :=
  ⟨eg, fun x hx w' hw => by
    obtain ⟨y, hy, rfl⟩ := List.mem_map.1 hx
    exact h y hy w' hw⟩
set_option maxHeartbeats 1000000 in
theorem ContainsL (A : Option Addr) (c : Nat) (ls : List Lk) (w : World) (hs : Sv w w.heap.size 9 A c (rowsL ls)) (g : FuncId) (fa lb : Array Value) (f : Lk → Bool) (hp : PredF Tryd.prog g fa lb (fun r => f (ofRow r)) (rowsL ls) w) :
    Calls Tryd.prog 34 #[.slice A ls.length c, .func (.func g) fa lb] w fun e w' => e = .returned (.bool (ls.any f)) ∧ Ext w w' := by
  have hi := IndexFuncLk A c (rowsL ls) w hs g fa lb _ hp
  rw [idx_rows, rowsL_length] at hi
  cases hq : ls.findIdx? f with
  | none =>
    rw [idxL_none hq] at hi
    have HA := Lib.hid (show ls.any f = false from by
      rw [List.any_eq_false]
      exact fun x hx => by simpa using List.findIdx?_eq_none_iff.1 hq x hx)
    have HI := Lib.hid hi
    clear hi hs hp hq
    go_enter Tryd.func34, Tryd.ntmps34
    go_wp2_with (go_at_call 50; refine HI.out.mono ?_; rintro e w' ⟨rfl, hy⟩)
    go_ret
    exact ⟨ret_bool (by rw [HA.out]; try rfl), hy⟩
  | some i =>
    rw [idxL_some hq] at hi
    have HA := Lib.hid (show ls.any f = true from by
      obtain ⟨h1, h2, _⟩ := List.findIdx?_eq_some_iff_getElem.1 hq
      rw [List.any_eq_true]
      exact ⟨_, List.getElem_mem h1, h2⟩)
    have HI := Lib.hid hi
    clear hi hs hp hq
    have hb : decide ((0 : Int) ≤ (i : Int)) = true := by simp
    go_enter Tryd.func34, Tryd.ntmps34
    go_wp2_with (go_at_call 50; refine HI.out.mono ?_; rintro e w' ⟨rfl, hy⟩)
    go_ret
    exact ⟨ret_bool (by rw [HA.out]; try simp), hy⟩

def livesL (now : Int) (x : Lk) : Bool := decide (now ≤ x.til)
/-- It hands back a table of its own. -/
def RetL (ls : List Lk) (w : World) (en : Ending) (w' : World) : Prop := RetRow 52 9 (rowsL ls) w en w'
set_option maxHeartbeats 1000000 in
theorem Expire_any (A : Option Addr) (c : Nat) (ls : List Lk) (w : World) (hs : Sv w w.heap.size 9 A c (rowsL ls)) (hb : ls.length ≤ 1000000) (now : Int) :
    Calls Tryd.prog 18 #[.slice A ls.length c, .int .i64 now] w (RetL (ls.filter (livesL now)) w) := by
  have hp := predL (g := 49) (fa := #[.int .i64 now]) (lb := #[]) (livesL now) ls w (fun _ _ => by kernel_rfl) (fun y _ w' _ => lives_any now y w')
  have h := whereLk A c (rowsL ls) w hs (by rw [rowsL_length]; exact hb) _ _ _ _ hp
  rw [rowsL_filter, rowsL_length] at h
  have HW := Lib.hid h
  clear hp h hs
  go_enter Tryd.func18, Tryd.ntmps18
  go_wp2_with fail
  refine HW.out.mono ?_
  rintro e w' ⟨A', c', rfl, ho, hx⟩
  have HO := Lib.hid ho
  clear ho
  go_wp2
  go_ret
  exact ⟨A', c', rfl, HO.out, hx⟩
def ownerL (ls : List Lk) (now : Int) (p : Pt) : Int := match (ls.filter (livesL now)).find? (fun x => inP p x.box) with | some x => x.site | none => 0
theorem ownerL_some {ls : List Lk} {now : Int} {p : Pt} {i : Nat} {x : Lk} (h : (ls.filter (livesL now)).findIdx? (fun x => inP p x.box) = some i) (hx : (ls.filter (livesL now))[i]? = some x) : ownerL ls now p = x.site := by
  obtain ⟨h1, h2, h3⟩ := List.findIdx?_eq_some_iff_getElem.1 h
  obtain ⟨h4, h5⟩ := List.getElem?_eq_some_iff.1 hx
  have hf : (ls.filter (livesL now)).find? (fun x => inP p x.box) = some x := by
    rw [List.find?_eq_some_iff_getElem]
    exact ⟨by rw [← h5]; exact h2, i, h4, h5, fun j hj => by simpa using h3 j hj⟩
  unfold ownerL
  rw [hf]
theorem ownerL_none {ls : List Lk} {now : Int} {p : Pt} (h : (ls.filter (livesL now)).findIdx? (fun x => inP p x.box) = none) : ownerL ls now p = 0 := by
  unfold ownerL
  rw [List.find?_eq_none.2 (fun x hx => by simpa using List.findIdx?_eq_none_iff.1 h x hx)]
theorem filter_len (f : Lk → Bool) (ls : List Lk) : (ls.filter f).length ≤ ls.length := List.length_filter_le f ls
set_option maxHeartbeats 2000000 in
theorem Owner_any (A : Option Addr) (c : Nat) (ls : List Lk) (w : World) (hs : Sv w w.heap.size 9 A c (rowsL ls)) (hb : ls.length ≤ 1000000) (now : Int) (p : Pt) :
    Calls Tryd.prog 20 #[.slice A ls.length c, .int .i64 now, .agg #[.int .i64 p.x, .int .i64 p.y, .int .i64 p.z]] w fun e w' => e = .returned (.int .i64 (ownerL ls now p)) ∧ Ext w w' := by
  have hx0 : Ext w (w.alloc (.cells #[.int .i64 p.x, .int .i64 p.y, .int .i64 p.z] 26)) := (Ext.refl w).alloc _
  have hE := Expire_any A c ls _ (hs.ext hx0) hb now
  have B0 := Arr.new w 26 [.int .i64 p.x, .int .i64 p.y, .int .i64 p.z]
  have HE := Lib.hid hE
  have HB := Lib.hid B0
  have hfl := filter_len (livesL now) ls
  clear hE hs B0
  go_enter Tryd.func20, Tryd.ntmps20
  go_wp2_with fail
  refine HE.out.mono ?_
  rintro e w1 ⟨A', c', rfl, ho, hx⟩
  have B1 := HB.out.ext hx
  have hS := Sv.of_own ho (rowsL_rwk _) rfl
  have hp := predL (g := 51) (fa := #[]) (lb := #[.pointer (some ⟨w.heap.size, 0, none⟩)]) (fun x => inP p x.box) (ls.filter (livesL now)) w1 (fun _ _ => by kernel_rfl) (fun y _ w' hw => Owner1_any y p w.heap.size w' (B1.ext hw))
  have hi := IndexFuncLk _ _ _ w1 hS _ _ _ _ hp
  have he := idx_rows (fun x => inP p x.box) (ls.filter (livesL now))
  try simp only at he
  rw [he, rowsL_length] at hi
  rw [rowsL_length]
  clear he
  have HO := Lib.hid ho
  have HX := Lib.hid (hx0.trans hx)
  have HS := Lib.hid hS
  clear hp B1 ho hx hS hx0
  cases hq : (ls.filter (livesL now)).findIdx? (fun x => inP p x.box) with
  | none =>
    rw [idxL_none hq] at hi
    have HI := Lib.hid hi
    have HR := Lib.hid (ownerL_none hq)
    clear hi hq
    go_wp2_with fail
    refine HI.out.mono ?_
    rintro e w2 ⟨rfl, hx2⟩
    go_wp2
    go_ret
    exact ⟨ret_int (by rw [HR.out]), HX.out.trans hx2⟩
  | some i =>
    rw [idxL_some hq] at hi
    have HI := Lib.hid hi
    obtain ⟨hil, _, _⟩ := List.findIdx?_eq_some_iff_getElem.1 hq
    obtain ⟨x, hxi⟩ : ∃ x, (ls.filter (livesL now))[i]? = some x := ⟨_, List.getElem?_eq_getElem hil⟩
    have HR := Lib.hid (ownerL_some hq hxi)
    have hrow : (rowsL (ls.filter (livesL now)))[i]? = some x.cells := by simp [rowsL, hxi]
    have HRow := Lib.hid hrow
    clear hi hq hxi hrow
    go_wp2_with fail
    refine HI.out.mono ?_
    rintro e w2 ⟨rfl, hx2⟩
    obtain ⟨b', off, rfl, hbl, hr⟩ := (HS.out.ext hx2).row HRow.out
    have h0 := hr 0 _ rfl
    simp only [Nat.add_zero] at h0
    clear hr
    go_wp2
    go_ret
    exact ⟨ret_int (by rw [HR.out]), HX.out.trans hx2⟩
end Go.Proofs.YtjceebpafnnffaaDoor

namespace Go.Proofs.YtjceebpafnnffaaDoor
open Go Go.RowKit

def worldB : Bx := ⟨⟨0, 0, 0⟩, ⟨16384, 16384, 16384⟩⟩
structure WorldIn (w : World) : Prop where
  at_ : ∀ (j : Nat) (v : Value), ([.int .i64 worldB.lo.x, .int .i64 worldB.lo.y, .int .i64 worldB.lo.z, .int .i64 worldB.hi.x, .int .i64 worldB.hi.y, .int .i64 worldB.hi.z] : List Value)[j]? = some v → w.cell? ⟨0, j, none⟩ = some v
  lt : 0 < w.heap.size
theorem WorldIn.ext {w w' : World} (h : WorldIn w) (hx : Ext w w') : WorldIn w' := ⟨fun j v hv => (hx.cell (p := ⟨0, j, none⟩) h.lt).trans (h.at_ j v hv), Nat.lt_of_lt_of_le h.lt hx.size⟩
def isLockB (x : Lk) : Bool := decide (1 ≤ x.site ∧ x.site ≤ 8) && (decide (1 ≤ x.seq ∧ x.seq ≤ 1000) && (decide (0 ≤ x.til ∧ x.til ≤ 4000) && (!emptyB x.box && decide (interB x.box worldB = x.box))))
set_option maxRecDepth 100000 in
set_option maxHeartbeats 4000000 in
theorem isLock_any (x : Lk) (w : World) (hW : WorldIn w) :
    Calls Tryd.prog 52 #[.agg #[.int .i64 x.site, .int .i64 x.seq, .int .i64 x.til, .int .i64 x.box.lo.x, .int .i64 x.box.lo.y, .int .i64 x.box.lo.z, .int .i64 x.box.hi.x, .int .i64 x.box.hi.y, .int .i64 x.box.hi.z]] w fun e w' => e = .returned (.bool (isLockB x)) ∧ Ext w w' := by
  have hm := mixed
  have hG := near_old
  have HI := Lib.hid (show isLockB x = (decide (1 ≤ x.site ∧ x.site ≤ 8) && (decide (1 ≤ x.seq ∧ x.seq ≤ 1000) && (decide (0 ≤ x.til ∧ x.til ≤ 4000) && (!emptyB x.box && decide (interB x.box worldB = x.box))))) from rfl)
  have c0 := fun w => withinL_any x.site 1 8 w
  have c1 := fun w => withinL_any x.seq 1 1000 w
  have c2 := fun w => withinL_any x.til 0 4000 w
  have c3 := fun w => Empty_any x.box w
  have hq := eqBx_run (interB x.box worldB) x.box
  have c4 := fun w => Intersect_any x.box worldB w
  generalize interB x.box worldB = ib at hq c4 HI
  generalize decide (ib = x.box) = b4 at hq HI
  generalize decide (1 ≤ x.site ∧ x.site ≤ 8) = b0 at c0 HI
  generalize decide (1 ≤ x.seq ∧ x.seq ≤ 1000) = b1 at c1 HI
  generalize decide (0 ≤ x.til ∧ x.til ≤ 4000) = b2 at c2 HI
  generalize emptyB x.box = b3 at c3 HI
  have v0 := hW.at_ 0 _ rfl
  have v1 := hW.at_ 1 _ rfl
  have v2 := hW.at_ 2 _ rfl
  have v3 := hW.at_ 3 _ rfl
  have v4 := hW.at_ 4 _ rfl
  have v5 := hW.at_ 5 _ rfl
  have hl := hW.lt
  simp only [worldB] at c4 v0 v1 v2 v3 v4 v5
  have C0 := Lib.hid c0; have C1 := Lib.hid c1; have C2 := Lib.hid c2; have C3 := Lib.hid c3; have C4 := Lib.hid c4
  clear c0 c1 c2 c3 c4 hW
  obtain rfl | ⟨rfl, rfl⟩ | ⟨rfl, rfl, rfl⟩ | ⟨rfl, rfl, rfl, rfl⟩ | ⟨rfl, rfl, rfl, rfl⟩ : b0 = false ∨ (b0 = true ∧ b1 = false) ∨ (b0 = true ∧ b1 = true ∧ b2 = false) ∨ (b0 = true ∧ b1 = true ∧ b2 = true ∧ b3 = true) ∨ (b0 = true ∧ b1 = true ∧ b2 = true ∧ b3 = false) := by
    cases b0 <;> cases b1 <;> cases b2 <;> cases b3 <;> simp
  all_goals
    go_enter Tryd.func52, Tryd.ntmps52
    go_wp2
    refine wp_region_near (by assumption) (by kernel_rfl) ?_
    repeat (go_big_quiet_step ((first | (go_at_call 68; first | with_reducible exact near_call (C0.out _) | with_reducible exact near_call (C1.out _) | with_reducible exact near_call (C2.out _)) | (go_at_call 60; exact near_call (C3.out _)) | (go_at_call 61; exact near_call (C4.out _)))))
    refine wpQuiet_nil ?_
    intro w1 hw1
    have hy := Ext.of_near hw1
    clear hw1
    go_wp2
    go_ret
    exact ⟨ret_bool (by rw [HI.out]; simp), (by repeat (first | with_reducible exact Ext.refl _ | with_reducible assumption | with_reducible refine Ext.alloc ?_ _ | with_reducible refine Ext.drew ?_ | (with_reducible refine Ext.setCell ?_ ?_ _; rotate_left; focus (first | (simp; done) | (simp; omega) | omega)) | (with_reducible refine Ext.setRow ?_ ?_ _; rotate_left; focus (first | (simp; done) | (simp; omega) | omega)) | with_reducible refine Ext.trans ?_ (by with_reducible assumption)))⟩
set_option maxRecDepth 100000 in
set_option maxHeartbeats 2000000 in
theorem is_any (x : Ed) (k : Int) (w : World) (hR : RowsIn w) :
    Calls Tryd.prog 31 #[.agg #[.int .i64 x.st.tick, .int .i64 x.st.clock, .int .i64 x.st.site, .int .i64 x.st.seq, .int .i64 x.kind, .int .i64 x.box.lo.x, .int .i64 x.box.lo.y, .int .i64 x.box.lo.z, .int .i64 x.box.hi.x, .int .i64 x.box.hi.y, .int .i64 x.box.hi.z, .int .i64 x.at_.x, .int .i64 x.at_.y, .int .i64 x.at_.z, .int .i64 x.turn, .int .i64 x.cell, .int .i64 x.size], .int .i64 k] w fun e w' => e = .returned (.bool (decide (x.kind = k) && decide (checkE x 14 1 = 0))) ∧ Ext w w' := by
  have HC := Lib.hid (fun (w' : World) (hx : Ext w w') => Check_any x 14 1 w' (hR.ext hx))
  generalize checkE x 14 1 = ce at HC
  by_cases hk : x.kind = k
  · have hb : (x.kind == k) = true := by simpa using hk
    have HK := Lib.hid hk
    clear hk
    go_enter Tryd.func31, Tryd.ntmps31
    go_upto_region 1 with fail
    obtain ⟨W0, hW⟩ : ∃ W, W = w.alloc (.cells #[.int .i64 x.st.tick, .int .i64 x.st.clock, .int .i64 x.st.site, .int .i64 x.st.seq, .int .i64 x.kind, .int .i64 x.box.lo.x, .int .i64 x.box.lo.y, .int .i64 x.box.lo.z, .int .i64 x.box.hi.x, .int .i64 x.box.hi.y, .int .i64 x.box.hi.z, .int .i64 x.at_.x, .int .i64 x.at_.y, .int .i64 x.at_.z, .int .i64 x.turn, .int .i64 x.cell, .int .i64 x.size] 30) := ⟨_, rfl⟩
    have hx0 : Ext w W0 := by rw [hW]; exact (Ext.refl w).alloc _
    have B0 : Arr W0 w.heap.size 30 [.int .i64 x.st.tick, .int .i64 x.st.clock, .int .i64 x.st.site, .int .i64 x.st.seq, .int .i64 x.kind, .int .i64 x.box.lo.x, .int .i64 x.box.lo.y, .int .i64 x.box.lo.z, .int .i64 x.box.hi.x, .int .i64 x.box.hi.y, .int .i64 x.box.hi.z, .int .i64 x.at_.x, .int .i64 x.at_.y, .int .i64 x.at_.z, .int .i64 x.turn, .int .i64 x.cell, .int .i64 x.size] := by rw [hW]; exact Arr.new w _ _
    rw [← hW]
    clear hW
    have cB0 := B0.cell
    have fB0 := B0.frozen
    have lB0 := B0.lt
    go_wp2_with (first | (refine wpList_load_blk 30 (.tmp 2) rfl rfl B0 rfl _ Tryd.underlying30 rfl (by kernel_rfl) ?_) | (refine wpList_load_blk 30 (.tmp 2) rfl rfl (B0.alloc _) rfl _ Tryd.underlying30 rfl (by kernel_rfl) ?_) | (refine wpList_load_blk 30 (.tmp 2) rfl rfl ((B0.alloc _).alloc _) rfl _ Tryd.underlying30 rfl (by kernel_rfl) ?_))
    ((refine (HC.out _ ?_).mono ?_); (exact (by repeat (first | with_reducible exact Ext.refl _ | with_reducible assumption | with_reducible refine Ext.alloc ?_ _ | with_reducible refine Ext.drew ?_ | (with_reducible refine Ext.setCell ?_ ?_ _; rotate_left; focus (first | (simp; done) | (simp; omega) | omega)) | (with_reducible refine Ext.setRow ?_ ?_ _; rotate_left; focus (first | (simp; done) | (simp; omega) | omega)) | with_reducible refine Ext.trans ?_ (by with_reducible assumption)))); rintro e wx ⟨rfl, xx⟩; have xz := xx.size; (try simp only [World.size_alloc_, World.size_setCell_] at xz); have B0 := Arr.ext (w' := wx) B0 (by repeat (first | with_reducible exact Ext.refl _ | with_reducible assumption | with_reducible refine Ext.alloc ?_ _ | with_reducible refine Ext.drew ?_ | (with_reducible refine Ext.setCell ?_ ?_ _; rotate_left; focus (first | (simp; done) | (simp; omega) | omega)) | (with_reducible refine Ext.setRow ?_ ?_ _; rotate_left; focus (first | (simp; done) | (simp; omega) | omega)) | with_reducible refine Ext.trans ?_ (by with_reducible assumption))); have cB0 := B0.cell; have fB0 := B0.frozen; have lB0 := B0.lt)
    go_wp2
    go_ret
    exact ⟨ret_bool (by rw [Bool.eq_iff_iff]; simp [HK.out]), (by repeat (first | with_reducible exact Ext.refl _ | with_reducible assumption | with_reducible refine Ext.alloc ?_ _ | with_reducible refine Ext.drew ?_ | (with_reducible refine Ext.setCell ?_ ?_ _; rotate_left; focus (first | (simp; done) | (simp; omega) | omega)) | (with_reducible refine Ext.setRow ?_ ?_ _; rotate_left; focus (first | (simp; done) | (simp; omega) | omega)) | with_reducible refine Ext.trans ?_ (by with_reducible assumption)))⟩
  · have hb : (x.kind == k) = false := by simpa using hk
    have HK := Lib.hid hk
    clear hk
    go_enter Tryd.func31, Tryd.ntmps31
    go_upto_region 1 with fail
    obtain ⟨W0, hW⟩ : ∃ W, W = w.alloc (.cells #[.int .i64 x.st.tick, .int .i64 x.st.clock, .int .i64 x.st.site, .int .i64 x.st.seq, .int .i64 x.kind, .int .i64 x.box.lo.x, .int .i64 x.box.lo.y, .int .i64 x.box.lo.z, .int .i64 x.box.hi.x, .int .i64 x.box.hi.y, .int .i64 x.box.hi.z, .int .i64 x.at_.x, .int .i64 x.at_.y, .int .i64 x.at_.z, .int .i64 x.turn, .int .i64 x.cell, .int .i64 x.size] 30) := ⟨_, rfl⟩
    have hx0 : Ext w W0 := by rw [hW]; exact (Ext.refl w).alloc _
    have B0 : Arr W0 w.heap.size 30 [.int .i64 x.st.tick, .int .i64 x.st.clock, .int .i64 x.st.site, .int .i64 x.st.seq, .int .i64 x.kind, .int .i64 x.box.lo.x, .int .i64 x.box.lo.y, .int .i64 x.box.lo.z, .int .i64 x.box.hi.x, .int .i64 x.box.hi.y, .int .i64 x.box.hi.z, .int .i64 x.at_.x, .int .i64 x.at_.y, .int .i64 x.at_.z, .int .i64 x.turn, .int .i64 x.cell, .int .i64 x.size] := by rw [hW]; exact Arr.new w _ _
    rw [← hW]
    clear hW
    have cB0 := B0.cell
    have fB0 := B0.frozen
    have lB0 := B0.lt
    go_wp2
    go_ret
    exact ⟨ret_bool (by rw [Bool.eq_iff_iff]; simp [HK.out]), (by repeat (first | with_reducible exact Ext.refl _ | with_reducible assumption | with_reducible refine Ext.alloc ?_ _ | with_reducible refine Ext.drew ?_ | (with_reducible refine Ext.setCell ?_ ?_ _; rotate_left; focus (first | (simp; done) | (simp; omega) | omega)) | (with_reducible refine Ext.setRow ?_ ?_ _; rotate_left; focus (first | (simp; done) | (simp; omega) | omega)) | with_reducible refine Ext.trans ?_ (by with_reducible assumption)))⟩
def blocksL (ls : List Lk) (site now : Int) (p : Pt) : Bool := decide (ownerL ls now p ≠ 0) && decide (ownerL ls now p ≠ site)
set_option maxHeartbeats 2000000 in
theorem Blocks_any (A : Option Addr) (c : Nat) (ls : List Lk) (w : World) (hs : Sv w w.heap.size 9 A c (rowsL ls)) (hb : ls.length ≤ 1000000) (site now : Int) (p : Pt) :
    Calls Tryd.prog 22 #[.slice A ls.length c, .int .i64 site, .int .i64 now, .agg #[.int .i64 p.x, .int .i64 p.y, .int .i64 p.z]] w fun e w' => e = .returned (.bool (blocksL ls site now p)) ∧ Ext w w' := by
  have hx0 : Ext w (w.alloc (.cells #[.int .i64 p.x, .int .i64 p.y, .int .i64 p.z] 26)) := (Ext.refl w).alloc _
  have HO := Lib.hid (Owner_any A c ls _ (hs.ext hx0) hb now p)
  have HB := Lib.hid (show blocksL ls site now p = (decide (ownerL ls now p ≠ 0) && decide (ownerL ls now p ≠ site)) from rfl)
  generalize ownerL ls now p = ow at HO HB
  clear hs hb hx0
  go_enter Tryd.func22, Tryd.ntmps22
  go_wp2_with (first | (go_at_call 20; refine (HO.out).mono ?_; rintro e wx ⟨rfl, xx⟩; obtain ⟨xc, xf, xl, xe, xn, xm⟩ := xx.look; have xz := xx.size; (try simp only [World.size_alloc_] at xz); (try (have qh := xx.one (b := w.heap.size) (by (try simp only [World.size_alloc_]); omega); obtain ⟨qc, qf, ql, qe, qn, qm⟩ := qh)); (try (have qh := xx.one (b := w.heap.size + 1) (by (try simp only [World.size_alloc_]); omega); obtain ⟨qc, qf, ql, qe, qn, qm⟩ := qh)); (try (have qh := xx.one (b := w.heap.size + 1 + 1) (by (try simp only [World.size_alloc_]); omega); obtain ⟨qc, qf, ql, qe, qn, qm⟩ := qh)); (try (have qh := xx.one (b := w.heap.size + 1 + 1 + 1) (by (try simp only [World.size_alloc_]); omega); obtain ⟨qc, qf, ql, qe, qn, qm⟩ := qh))))
  all_goals
    go_ret
    refine ⟨ret_bool ?_, (by repeat (first | with_reducible exact Ext.refl _ | with_reducible assumption | with_reducible refine Ext.alloc ?_ _ | with_reducible refine Ext.drew ?_ | (with_reducible refine Ext.setCell ?_ ?_ _; rotate_left; focus (first | (simp; done) | (simp; omega) | omega)) | (with_reducible refine Ext.setRow ?_ ?_ _; rotate_left; focus (first | (simp; done) | (simp; omega) | omega)) | with_reducible refine Ext.trans ?_ (by with_reducible assumption)))⟩
    rw [HB.out, Bool.eq_iff_iff]
    simp [*]
end Go.Proofs.YtjceebpafnnffaaDoor

namespace Go.Proofs.YtjceebpafnnffaaDoor
open Go Go.RowKit

set_option maxHeartbeats 1000000 in
theorem IndexFuncCh (A : Option Addr) (c : Nat) (xs : List (List Value)) (w : World) (hs : Sv w w.heap.size 5 A c xs) (g : FuncId) (fa lb : Array Value) (p : List Value → Bool) (hp : PredF Tryd.prog g fa lb p xs w) :
    Calls Tryd.prog 45 #[.slice A xs.length c, .func (.func g) fa lb] w fun e w' => e = .returned (.int .i64 (idx p xs)) ∧ Ext w w' := by
  have hln := hs.len
  have HS := Lib.hid hs; clear hs
  have eg := hp.enters
  have HP := Lib.hid hp; clear hp
  go_enter Tryd.func45, Tryd.ntmps45
  go_wp2
  go_loopw [8] (fun i wr => ∃ j : Nat, j ≤ xs.length ∧ i = .int .i64 j ∧ (∀ (i : Nat) (x : List Value), i < j → xs[i]? = some x → p x = false) ∧ Ext w wr) (fun i _ => xs.length - (intOf i).toNat)
  case atStart => exact ⟨0, Nat.zero_le _, rfl, fun i x hi => by omega, Ext.refl _⟩
  case round =>
    obtain ⟨j, hj, rfl, hg, hx⟩ := hrel
    have HG := Lib.hid hg; clear hg
    by_cases hlt : j < xs.length
    · obtain ⟨x, hxj⟩ : ∃ x, xs[j]? = some x := ⟨_, List.getElem?_eq_getElem hlt⟩
      have hmem := List.mem_of_getElem? hxj
      have HL := Lib.hid (HS.out.rows x hmem).1
      obtain ⟨b', off, rfl, hbl, hrow⟩ := (HS.out.ext hx).row hxj
      have HR := Lib.hid hrow
      have HC := Lib.hid (HP.out.call _ hmem wr hx)
      clear hmem hrow
      cases hq : p x with
      | true =>
        have HX := Lib.hid (idx_at HG.out hxj hq); clear hxj
        rw [hq] at HC
        go_wp2_with (first | (with_reducible refine wpList_load_mid rfl 54 (.tmp 14) rfl b' (off + j * 5) rfl x _ HR.out Tryd.underlying54 rfl (HL.out ▸ (by kernel_rfl)) ?_) | (go_at_fn g; refine HC.out.mono ?_; rintro e w' ⟨rfl, hy⟩))
        go_ret
        exact ⟨ret_int HX.out.symm, hx.trans hy⟩
      | false =>
        have HX := Lib.hid (fun (i : Nat) (x : List Value) (hi : i < j + 1) (h : xs[i]? = some x) => (show p x = false from by
          rcases Nat.lt_succ_iff_lt_or_eq.1 hi with h1 | rfl
          · exact HG.out i x h1 h
          · rw [h] at hxj; injection hxj with e; rw [e]; exact hq)); clear hxj
        rw [hq] at HC
        go_wp2_with (first | (with_reducible refine wpList_load_mid rfl 54 (.tmp 14) rfl b' (off + j * 5) rfl x _ HR.out Tryd.underlying54 rfl (HL.out ▸ (by kernel_rfl)) ?_) | (go_at_fn g; refine HC.out.mono ?_; rintro e w' ⟨rfl, hy⟩))
        go_roundw
        case rel => exact ⟨j + 1, by omega, by go_num, HX.out, hx.trans hy⟩
        case measure => simp [intOf]; omega
    · obtain rfl : j = xs.length := by omega
      go_wp2
      go_ret
      exact ⟨ret_int (idx_no fun i x hx => HG.out i x (List.getElem?_eq_some_iff.1 hx).1 hx).symm, hx⟩
end Go.Proofs.YtjceebpafnnffaaDoor

namespace Go.Proofs.YtjceebpafnnffaaDoor
open Go Go.RowKit

def ofRowC : List Value → Chg
  | [.int _ a, .int _ b, .int _ c, .int _ d, .int _ e] => ⟨⟨a, b, c⟩, d, e⟩
  | _ => ⟨zeroPt, 0, 0⟩
def rowsC (cs : List Chg) : List (List Value) := cs.map Chg.cells
theorem rowsC_length (cs : List Chg) : (rowsC cs).length = cs.length := by simp [rowsC]
theorem rowsC_rwk (cs : List Chg) : Rwk 5 (rowsC cs) := fun x hx => by
  obtain ⟨y, _, rfl⟩ := List.mem_map.1 hx
  refine ⟨rfl, fun u hu => ?_⟩
  simp only [Chg.cells, List.mem_cons, List.not_mem_nil, or_false] at hu
  rcases hu with rfl | rfl | rfl | rfl | rfl <;> rfl
def idxC (f : Chg → Bool) (cs : List Chg) : Int := match cs.findIdx? f with | some i => i | none => -1
theorem idx_rowsC (f : Chg → Bool) (cs : List Chg) : idx (fun r => f (ofRowC r)) (rowsC cs) = idxC f cs := by
  unfold idx idxC rowsC
  rw [List.findIdx?_map]
  rfl
theorem predC {g : FuncId} {fa lb : Array Value} (f : Chg → Bool) (cs : List Chg) (w : World) (eg : ∀ args w, (callFunc g args).run Tryd.prog w = .ok (.enter g args) w)
    (h : ∀ y, y ∈ cs → ∀ w', Ext w w' → Calls Tryd.prog g (fa ++ #[.agg #[.int .i64 y.at_.x, .int .i64 y.at_.y, .int .i64 y.at_.z, .int .i64 y.old, .int .i64 y.new]] ++ lb) w' fun e w'' => e = .returned (.bool (f y)) ∧ Ext w' w'') : PredF Tryd.prog g fa lb (fun r => f (ofRowC r)) (rowsC cs) w :=
  ⟨eg, fun x hx w' hw => by
    obtain ⟨y, hy, rfl⟩ := List.mem_map.1 hx
    exact h y hy w' hw⟩
def hitL (ls : List Lk) (x : Chg) : Bool := ls.any fun y => inP x.at_ y.box
set_option maxHeartbeats 2000000 in
theorem Blocked2_any (x : Chg) (bo : Nat) (A : Option Addr) (c : Nat) (ls : List Lk) (w : World) (hs : Sv w w.heap.size 9 A c (rowsL ls)) (h0 : w.cell? ⟨bo, 0, none⟩ = some (.slice A ls.length c)) :
    Calls Tryd.prog 46 #[.agg #[.int .i64 x.at_.x, .int .i64 x.at_.y, .int .i64 x.at_.z, .int .i64 x.old, .int .i64 x.new], .pointer (some ⟨bo, 0, none⟩)] w fun e w' => e = .returned (.bool (hitL ls x)) ∧ Ext w w' := by
  have hx0 : Ext w (w.alloc (.cells #[.int .i64 x.at_.x, .int .i64 x.at_.y, .int .i64 x.at_.z, .int .i64 x.old, .int .i64 x.new] 54)) := (Ext.refl w).alloc _
  have B0 := Arr.new w 54 [.int .i64 x.at_.x, .int .i64 x.at_.y, .int .i64 x.at_.z, .int .i64 x.old, .int .i64 x.new]
  have hp := predL (g := 47) (fa := #[]) (lb := #[.pointer (some ⟨w.heap.size, 0, none⟩)]) (fun y => inP x.at_ y.box) ls _ (fun _ _ => by kernel_rfl) (fun y _ w' hw => Blocked21_any y x w.heap.size w' (B0.ext hw))
  have HC := Lib.hid (ContainsL A c ls _ (hs.ext hx0) _ _ _ (fun y => inP x.at_ y.box) hp)
  have l1 := World.block_lt_of_cell? w _ h0
  simp only at l1
  clear hp B0 hs hx0
  go_enter Tryd.func46, Tryd.ntmps46
  go_wp2_with fail
  refine HC.out.mono ?_
  rintro e wx ⟨rfl, xx⟩
  go_wp2
  go_ret
  exact ⟨rfl, (by repeat (first | with_reducible exact Ext.refl _ | with_reducible assumption | with_reducible refine Ext.alloc ?_ _ | with_reducible refine Ext.drew ?_ | (with_reducible refine Ext.setCell ?_ ?_ _; rotate_left; focus (first | (simp; done) | (simp; omega) | omega)) | (with_reducible refine Ext.setRow ?_ ?_ _; rotate_left; focus (first | (simp; done) | (simp; omega) | omega)) | with_reducible refine Ext.trans ?_ (by with_reducible assumption)))⟩
def otherL (site : Int) (x : Lk) : Bool := decide (x.site ≠ site)
def blockedL (ls : List Lk) (site now : Int) (cs : List Chg) : Int := idxC (hitL ((ls.filter (livesL now)).filter (otherL site))) cs
theorem ret_ib {a b : Int} {p q : Bool} (h : a = b) (k : p = q) : Ending.returned (.tuple #[.int .i64 a, .bool p]) = .returned (.tuple #[.int .i64 b, .bool q]) := by rw [h, k]
set_option maxHeartbeats 4000000 in
theorem Blocked_any (A A2 : Option Addr) (c c2 : Nat) (ls : List Lk) (cs : List Chg) (w : World) (hs : Sv w w.heap.size 9 A c (rowsL ls)) (hs2 : Sv w w.heap.size 5 A2 c2 (rowsC cs)) (hb : ls.length ≤ 1000000) (site now : Int) :
    Calls Tryd.prog 15 #[.slice A ls.length c, .int .i64 site, .int .i64 now, .slice A2 cs.length c2] w fun e w' => e = .returned (.tuple #[.int .i64 (max (blockedL ls site now cs) 0), .bool (decide (0 ≤ blockedL ls site now cs))]) ∧ Ext w w' := by
  have hx0 : Ext w (w.alloc (.cells #[.int .i64 site] 3)) := (Ext.refl w).alloc _
  have B0 := Arr.new w 3 [.int .i64 site]
  have HE := Lib.hid (Expire_any A c ls _ (hs.ext hx0) hb now)
  have HS2 := Lib.hid hs2
  have HB := Lib.hid B0
  have hfl := filter_len (livesL now) ls
  have HR := Lib.hid (show blockedL ls site now cs = idxC (hitL ((ls.filter (livesL now)).filter (otherL site))) cs from rfl)
  have HX0 := Lib.hid hx0
  generalize ls.filter (livesL now) = l1 at HE HR hfl
  clear hs hs2 B0 hx0
  go_enter Tryd.func15, Tryd.ntmps15
  go_wp2_with fail
  refine HE.out.mono ?_
  rintro e w1 ⟨A', c', rfl, ho, hx⟩
  have hS := Sv.of_own ho (rowsL_rwk _) rfl
  have B1 := HB.out.ext hx
  have hp := predL (g := 44) (fa := #[]) (lb := #[.pointer (some ⟨w.heap.size, 0, none⟩)]) (otherL site) l1 w1 (fun _ _ => by kernel_rfl) (fun y _ w' hw => Blocked1_any y site w.heap.size w' ((B1.ext hw).cell 0))
  have hw := whereLk _ _ _ w1 hS (by rw [rowsL_length]; omega) _ _ _ _ hp
  have hf := rowsL_filter (otherL site) l1
  rw [hf, rowsL_length] at hw
  rw [rowsL_length]
  generalize l1.filter (otherL site) = l2 at hw HR
  have HW := Lib.hid hw
  have HX1 := Lib.hid (HX0.out.trans hx)
  clear hp hw hf hS ho B1 hx
  go_wp2_with fail
  refine HW.out.mono ?_
  rintro e w2 ⟨A3, c3, rfl, ho, hx⟩
  have hS := Sv.of_own ho (rowsL_rwk _) rfl
  rw [rowsL_length] at ho ⊢
  have hx2 : Ext w2 (w2.alloc (.cells #[.slice A3 l2.length c3] 22)) := (Ext.refl w2).alloc _
  have B2 := Arr.new w2 22 [.slice A3 l2.length c3]
  have hS2 := hS.ext hx2
  have hp := predC (g := 46) (fa := #[]) (lb := #[.pointer (some ⟨w2.heap.size, 0, none⟩)]) (hitL l2) cs _ (fun _ _ => by kernel_rfl) (fun y _ w' hw => Blocked2_any y w2.heap.size A3 c3 _ w' (hS2.ext hw) ((B2.ext hw).cell 0))
  have HX2 := Lib.hid ((HX1.out.trans hx).trans hx2)
  have hi := IndexFuncCh A2 c2 (rowsC cs) _ (HS2.out.ext HX2.out) _ _ _ _ hp
  have he := idx_rowsC (hitL l2) cs
  rw [he, rowsC_length, ← HR.out] at hi
  have HI := Lib.hid hi
  obtain ⟨R, hRR⟩ : ∃ R, R = blockedL ls site now cs := ⟨_, rfl⟩
  rw [← hRR] at HI
  have HRR := Lib.hid hRR
  clear hRR
  clear he hp hS hS2 B2 hx2 hx ho hi
  go_wp2_with fail
  refine HI.out.mono ?_
  rintro e w3 ⟨rfl, hx3⟩
  go_wp2
  go_ret2
  exact ⟨ret_ib (by rw [HRR.out]) (by rw [HRR.out]), HX2.out.trans hx3⟩
end Go.Proofs.YtjceebpafnnffaaDoor

namespace Go.Proofs.YtjceebpafnnffaaDoor
open Go Go.RowKit

theorem lk_row {A : Option Addr} {c : Nat} {ls : List Lk} {w : World} (hs : Sv w w.heap.size 9 A c (rowsL ls)) {j : Nat} {x : Lk} (hx : ls[j]? = some x) : ∃ b off, A = some ⟨b, off, none⟩ ∧ b < w.heap.size ∧ w.rangeAt b (off + j * 9) x.cells :=
  hs.row (by simp [rowsL, hx])
theorem filter_stepL {f : Lk → Bool} {ls : List Lk} {j : Nat} {x : Lk} (hx : ls[j]? = some x) : (ls.take (j + 1)).filter f = (ls.take j).filter f ++ if f x then [x] else [] := by
  obtain ⟨hi, rfl⟩ := List.getElem?_eq_some_iff.1 hx
  rw [List.take_succ_eq_append_getElem hi, List.filter_append]
  cases h : f ls[j] <;> simp [h]
theorem filter_leL (f : Lk → Bool) (ls : List Lk) (j : Nat) : ((ls.take j).filter f).length ≤ j := by
  have h1 := List.length_filter_le f (ls.take j)
  have h2 := List.length_take_le j ls
  omega
set_option maxRecDepth 100000 in
set_option maxHeartbeats 4000000 in
theorem refExpire_any (A : Option Addr) (c : Nat) (ls : List Lk) (w : World) (hs : Sv w w.heap.size 9 A c (rowsL ls)) (hb : ls.length ≤ 1000000) (now : Int) :
    Calls Tryd.prog 19 #[.slice A ls.length c, .int .i64 now] w (RetL (ls.filter (livesL now)) w) := by
  have HS := Lib.hid hs; clear hs
  obtain ⟨i0, hi, hz0, hz1, hz2⟩ := info_parts infoLk
  have HI := Lib.hid hi; have HZ := Lib.hid hz0; have HZ1 := Lib.hid hz1; have HZ2 := Lib.hid hz2; clear hi hz0 hz1 hz2
  go_enter Tryd.func19, Tryd.ntmps19
  go_wp2
  go_loopw [5, 6] (fun v i wr => ∃ j : Nat, j ≤ ls.length ∧ i = .int .i64 j ∧ wr.ownsRow w.heap.size 52 9 v (rowsL ((ls.take j).filter (livesL now))).length (rowsL ((ls.take j).filter (livesL now))).flatten ∧ Ext w wr) (fun _ i _ => ls.length - (intOf i).toNat)
  case atStart => exact ⟨0, Nat.zero_le _, rfl, World.ownsRow_nil _ _ _ _, Ext.refl _⟩
  case round =>
    obtain ⟨j, hj, rfl, ho, hx⟩ := hrel
    have HO := Lib.hid ho; clear ho
    by_cases hlt : j < ls.length
    · obtain ⟨x, hxj⟩ : ∃ x, ls[j]? = some x := ⟨_, List.getElem?_eq_getElem hlt⟩
      obtain ⟨b', off, rfl, hbl, hrow⟩ := lk_row (HS.out.ext hx) hxj
      have HR := Lib.hid hrow
      have h2 := hrow 2 _ rfl
      have HST := Lib.hid (filter_stepL (f := livesL now) hxj)
      have hfl := filter_leL (livesL now) ls j
      have HN := Lib.hid (rowsL_length ((ls.take j).filter (livesL now)))
      have HM1 := Lib.hid (show (rowsL ((ls.take j).filter (livesL now))).length + 1 ≤ maxLen by rw [rowsL_length]; unfold maxLen; omega)
      have HM2 := Lib.hid (show ((rowsL ((ls.take j).filter (livesL now))).length + 1) * 72 ≤ 140737488355328 by rw [rowsL_length]; omega)
      have HONE := Lib.hid ((rowsL_rwk [x] x.cells (by simp [rowsL])).2)
      have hbq := Nat.lt_of_lt_of_le hbl (Nat.le_refl _)
      clear hrow hxj hfl
      generalize (ls.take j).filter (livesL now) = l1 at HO HN HM1 HM2 HST
      by_cases hq : now ≤ x.til
      · have HX := Lib.hid (show rowsL ((ls.take (j + 1)).filter (livesL now)) = rowsL l1 ++ [x.cells] from by rw [HST.out]; simp [livesL, hq, rowsL])
        clear HST
        go_wp2_with (first
          | (refine wpList_load_mid rfl 52 (.tmp 23) rfl b' (off + j * 9) rfl x.cells _ HR.out Tryd.underlying52 rfl (by kernel_rfl) ?_)
          | (refine wpList_buildRow rfl 22 52 24 rfl 9 (by decide) (by decide) x.cells rfl rfl Tryd.underlying22 (by kernel_rfl) (by kernel_rfl) ?_)
          | (at_builtin; refine wpList_append_own _ rfl _ _ 22 rfl w.heap.size 52 i0 (.agg #[.int .i64 0, .int .i64 0, .int .i64 0, .int .i64 0, .int .i64 0, .int .i64 0, .int .i64 0, .int .i64 0, .int .i64 0]) 9 72 Tryd.underlying22 HI.out HZ.out HZ1.out HZ2.out rfl (by decide) _ (rowsL l1).length (rowsL l1).flatten rfl (own_ext HO.out (Ext.alloc (Ext.refl wr) _)) ⟨wr.heap.size, 0, none⟩ 1 1 x.cells rfl rfl ?_ HONE.out HM1.out HM2.out ?_ ?_))
        · intro j2 u hu
          rw [add_lit, Nat.zero_add, cell_of_row _ _ _ _ _ _ (heap_alloc_new wr _)]
          simpa using hu
        · have h1 := hx.size
          simp only [World.size_alloc_]
          omega
        intro v' w2 g1 g2 _
        have HO2 := Lib.hid g1
        have HX2 := Lib.hid ((hx.alloc (.cells x.cells.toArray 52)).grown g2 (own_low (own_ext HO.out (Ext.alloc (Ext.refl wr) (.cells x.cells.toArray 52)))))
        clear g1 g2
        go_wp2
        go_roundw
        case rel =>
          refine ⟨j + 1, by omega, by go_num, ?_, HX2.out⟩
          rw [HX.out]
          simpa using HO2.out
        case measure => simp [intOf]; omega
      · have HX := Lib.hid (show rowsL ((ls.take (j + 1)).filter (livesL now)) = rowsL l1 from by rw [HST.out]; simp [livesL, hq])
        clear HST
        have hq2 : decide (now ≤ x.til) = false := decide_eq_false hq
        go_wp2
        go_roundw
        case rel => exact ⟨j + 1, by omega, by go_num, by rw [HX.out]; exact HO.out, hx⟩
        case measure => simp [intOf]; omega
    · obtain rfl : j = ls.length := by omega
      go_wp2
      go_ret
      have ho := HO.out
      rw [List.take_length] at ho
      obtain ⟨A', c', rfl, _, _⟩ := own_form ho
      exact ⟨A', c', rfl, ho, hx⟩
end Go.Proofs.YtjceebpafnnffaaDoor

namespace Go.Proofs.YtjceebpafnnffaaDoor
open Go Go.RowKit

theorem ownerL_at {ls : List Lk} {now : Int} {p : Pt} {j : Nat} {x : Lk} (hx : ls[j]? = some x) (h1 : inP p x.box = true) (h2 : now ≤ x.til) (hb : ∀ (i : Nat) (y : Lk), i < j → ls[i]? = some y → (inP p y.box && livesL now y) = false) : ownerL ls now p = x.site := by
  obtain ⟨hj, rfl⟩ := List.getElem?_eq_some_iff.1 hx
  have hf : (ls.filter (livesL now)).find? (fun x => inP p x.box) = some ls[j] := by
    rw [List.find?_filter, List.find?_eq_some_iff_getElem]
    refine ⟨by simp [livesL, h1, h2], j, hj, rfl, fun i hi => ?_⟩
    have := hb i _ hi (List.getElem?_eq_getElem (by omega))
    revert this
    cases inP p ls[i].box <;> cases livesL now ls[i] <;> simp
  unfold ownerL
  rw [hf]
theorem ownerL_no {ls : List Lk} {now : Int} {p : Pt} (hb : ∀ (i : Nat) (y : Lk), i < ls.length → ls[i]? = some y → (inP p y.box && livesL now y) = false) : ownerL ls now p = 0 := by
  have hf : (ls.filter (livesL now)).find? (fun x => inP p x.box) = none := by
    rw [List.find?_filter, List.find?_eq_none]
    intro x hx
    obtain ⟨i, hi⟩ := List.getElem?_of_mem hx
    have := hb i x (List.getElem?_eq_some_iff.1 hi).1 hi
    simpa [Bool.and_comm] using this
  unfold ownerL
  rw [hf]
set_option maxRecDepth 100000 in
set_option maxHeartbeats 4000000 in
theorem refOwner_any (A : Option Addr) (c : Nat) (ls : List Lk) (w : World) (hs : Sv w w.heap.size 9 A c (rowsL ls)) (hb : ls.length ≤ 1000000) (now : Int) (p : Pt) :
    Calls Tryd.prog 21 #[.slice A ls.length c, .int .i64 now, .agg #[.int .i64 p.x, .int .i64 p.y, .int .i64 p.z]] w fun e w' => e = .returned (.int .i64 (ownerL ls now p)) ∧ Ext w w' := by
  have hm := mixed
  have hG := near_old
  have HS := Lib.hid hs; clear hs
  go_enter Tryd.func21, Tryd.ntmps21
  go_wp2
  go_loopw [7] (fun i wr => ∃ j : Nat, j ≤ ls.length ∧ i = .int .i64 j ∧ (∀ (i : Nat) (y : Lk), i < j → ls[i]? = some y → (inP p y.box && livesL now y) = false) ∧ Arr wr w.heap.size 26 [.int .i64 p.x, .int .i64 p.y, .int .i64 p.z] ∧ Ext w wr) (fun i _ => ls.length - (intOf i).toNat)
  case atStart => exact ⟨0, Nat.zero_le _, rfl, fun i y hi => by omega, Arr.new w _ _, (Ext.refl w).alloc _⟩
  case round =>
    obtain ⟨j, hj, rfl, hno, hB, hx⟩ := hrel
    have HNO := Lib.hid hno; clear hno
    by_cases hlt : j < ls.length
    · obtain ⟨x, hxj⟩ : ∃ x, ls[j]? = some x := ⟨_, List.getElem?_eq_getElem hlt⟩
      obtain ⟨b', off, rfl, hbl, hrow⟩ := lk_row (HS.out.ext hx) hxj
      have r0 := hrow 0 _ rfl
      have r2 := hrow 2 _ rfl
      have r3 := hrow 3 _ rfl
      have r4 := hrow 4 _ rfl
      have r5 := hrow 5 _ rfl
      have r6 := hrow 6 _ rfl
      have r7 := hrow 7 _ rfl
      have r8 := hrow 8 _ rfl
      simp only [Nat.add_zero] at r0
      have p0 := hB.cell 0
      have p1 := hB.cell 1
      have p2 := hB.cell 2
      simp only [List.getElem?_cons_zero, List.getElem?_cons_succ] at p0 p1 p2
      have lB := hB.lt
      have HIn := Lib.hid (fun w' => refIn_any p x.box w')
      have HX := Lib.hid hxj
      have HB := Lib.hid hB
      generalize hbi : inP p x.box = bi at HIn
      have HBI := Lib.hid hbi
      clear hrow hxj hbi hB
      cases bi
      · go_wp2_with fail
        refine wp_region_near (by assumption) (by kernel_rfl) ?_
        repeat (go_big_quiet_step ((go_at_call 27; exact near_call (HIn.out _))))
        refine wpQuiet_nil ?_
        intro w1 hw1
        have hy := Ext.of_near hw1
        clear hw1
        have hB2 := HB.out.ext hy
        go_wp2
        go_roundw
        case rel =>
          refine ⟨j + 1, by omega, by go_num, fun i y hi h => ?_, hB2, hx.trans hy⟩
          rcases Nat.lt_succ_iff_lt_or_eq.1 hi with h1 | rfl
          · exact HNO.out i y h1 h
          · rw [HX.out] at h; injection h with h; subst h; rw [HBI.out]; rfl
        case measure => simp [intOf]; omega
      · by_cases hq : now ≤ x.til
        · have HV := Lib.hid (ownerL_at HX.out HBI.out hq HNO.out)
          go_wp2_with fail
          refine wp_region_near (by assumption) (by kernel_rfl) ?_
          repeat (go_big_quiet_step ((go_at_call 27; exact near_call (HIn.out _))))
          refine wpQuiet_nil ?_
          intro w1 hw1
          have hy := Ext.of_near hw1
          clear hw1
          obtain ⟨xc, xf, xl, xe, xn, xm⟩ := hy.look
          go_wp2
          go_ret
          exact ⟨ret_int HV.out.symm, hx.trans hy⟩
        · have hq2 : decide (now ≤ x.til) = false := decide_eq_false hq
          go_wp2_with fail
          refine wp_region_near (by assumption) (by kernel_rfl) ?_
          repeat (go_big_quiet_step ((go_at_call 27; exact near_call (HIn.out _))))
          refine wpQuiet_nil ?_
          intro w1 hw1
          have hy := Ext.of_near hw1
          clear hw1
          obtain ⟨xc, xf, xl, xe, xn, xm⟩ := hy.look
          have hB2 := HB.out.ext hy
          go_wp2
          go_roundw
          case rel =>
            refine ⟨j + 1, by omega, by go_num, fun i y hi h => ?_, hB2, hx.trans hy⟩
            rcases Nat.lt_succ_iff_lt_or_eq.1 hi with h1 | rfl
            · exact HNO.out i y h1 h
            · rw [HX.out] at h; injection h with h; subst h; unfold livesL; rw [hq2]; simp
          case measure => simp [intOf]; omega
    · obtain rfl : j = ls.length := by omega
      have HV := Lib.hid (ownerL_no HNO.out)
      clear hB
      go_wp2
      go_ret
      exact ⟨ret_int HV.out.symm, hx⟩
set_option maxHeartbeats 2000000 in
theorem refBlocks_any (A : Option Addr) (c : Nat) (ls : List Lk) (w : World) (hs : Sv w w.heap.size 9 A c (rowsL ls)) (hb : ls.length ≤ 1000000) (site now : Int) (p : Pt) :
    Calls Tryd.prog 23 #[.slice A ls.length c, .int .i64 site, .int .i64 now, .agg #[.int .i64 p.x, .int .i64 p.y, .int .i64 p.z]] w fun e w' => e = .returned (.bool (blocksL ls site now p)) ∧ Ext w w' := by
  have hx0 : Ext w (w.alloc (.cells #[.int .i64 p.x, .int .i64 p.y, .int .i64 p.z] 26)) := (Ext.refl w).alloc _
  have HO := Lib.hid (refOwner_any A c ls _ (hs.ext hx0) hb now p)
  have HB := Lib.hid (show blocksL ls site now p = (decide (ownerL ls now p ≠ 0) && decide (ownerL ls now p ≠ site)) from rfl)
  generalize ownerL ls now p = ow at HO HB
  clear hs hb hx0
  go_enter Tryd.func23, Tryd.ntmps23
  go_wp2_with (first | (go_at_call 21; refine (HO.out).mono ?_; rintro e wx ⟨rfl, xx⟩; obtain ⟨xc, xf, xl, xe, xn, xm⟩ := xx.look; have xz := xx.size; (try simp only [World.size_alloc_] at xz); (try (have qh := xx.one (b := w.heap.size) (by (try simp only [World.size_alloc_]); omega); obtain ⟨qc, qf, ql, qe, qn, qm⟩ := qh)); (try (have qh := xx.one (b := w.heap.size + 1) (by (try simp only [World.size_alloc_]); omega); obtain ⟨qc, qf, ql, qe, qn, qm⟩ := qh)); (try (have qh := xx.one (b := w.heap.size + 1 + 1) (by (try simp only [World.size_alloc_]); omega); obtain ⟨qc, qf, ql, qe, qn, qm⟩ := qh)); (try (have qh := xx.one (b := w.heap.size + 1 + 1 + 1) (by (try simp only [World.size_alloc_]); omega); obtain ⟨qc, qf, ql, qe, qn, qm⟩ := qh))))
  all_goals
    go_ret
    refine ⟨ret_bool ?_, (by repeat (first | with_reducible exact Ext.refl _ | with_reducible assumption | with_reducible refine Ext.alloc ?_ _ | with_reducible refine Ext.drew ?_ | (with_reducible refine Ext.setCell ?_ ?_ _; rotate_left; focus (first | (simp; done) | (simp; omega) | omega)) | (with_reducible refine Ext.setRow ?_ ?_ _; rotate_left; focus (first | (simp; done) | (simp; omega) | omega)) | with_reducible refine Ext.trans ?_ (by with_reducible assumption)))⟩
    rw [HB.out, Bool.eq_iff_iff]
    simp [*]
end Go.Proofs.YtjceebpafnnffaaDoor

namespace Go.Proofs.YtjceebpafnnffaaDoor
open Go Go.RowKit

theorem ch_row {A : Option Addr} {c : Nat} {cs : List Chg} {w : World} (hs : Sv w w.heap.size 5 A c (rowsC cs)) {j : Nat} {x : Chg} (hx : cs[j]? = some x) : ∃ b off, A = some ⟨b, off, none⟩ ∧ b < w.heap.size ∧ w.rangeAt b (off + j * 5) x.cells :=
  hs.row (by simp [rowsC, hx])
/-- The first change that is blocked, as the reference looks for it. -/
def blockedR (ls : List Lk) (site now : Int) (cs : List Chg) : Int := idxC (fun x => blocksL ls site now x.at_) cs
theorem idxC_at {f : Chg → Bool} {cs : List Chg} {j : Nat} {x : Chg} (hx : cs[j]? = some x) (h1 : f x = true) (hb : ∀ (i : Nat) (y : Chg), i < j → cs[i]? = some y → f y = false) : idxC f cs = j := by
  unfold idxC
  obtain ⟨hj, rfl⟩ := List.getElem?_eq_some_iff.1 hx
  rw [List.findIdx?_eq_some_iff_getElem.2 ⟨hj, h1, fun i hi => by simp [hb i cs[i] hi (List.getElem?_eq_getElem _)]⟩]
theorem idxC_no {f : Chg → Bool} {cs : List Chg} (hb : ∀ (i : Nat) (y : Chg), i < cs.length → cs[i]? = some y → f y = false) : idxC f cs = -1 := by
  unfold idxC
  rw [List.findIdx?_eq_none_iff.2 (fun x hx => by obtain ⟨i, hi⟩ := List.getElem?_of_mem hx; simp [hb i x (List.getElem?_eq_some_iff.1 hi).1 hi])]
set_option maxRecDepth 100000 in
set_option maxHeartbeats 4000000 in
theorem refBlocked_any (A A2 : Option Addr) (c c2 : Nat) (ls : List Lk) (cs : List Chg) (w : World) (hs : Sv w w.heap.size 9 A c (rowsL ls)) (hs2 : Sv w w.heap.size 5 A2 c2 (rowsC cs)) (hb : ls.length ≤ 1000000) (site now : Int) :
    Calls Tryd.prog 16 #[.slice A ls.length c, .int .i64 site, .int .i64 now, .slice A2 cs.length c2] w fun e w' => e = .returned (.tuple #[.int .i64 (max (blockedR ls site now cs) 0), .bool (decide (0 ≤ blockedR ls site now cs))]) ∧ Ext w w' := by
  have hln : cs.length ≤ 9223372036854775807 := by have h := hs2.len; rw [rowsC_length] at h; exact h
  have HS := Lib.hid hs; clear hs
  have HS2 := Lib.hid hs2; clear hs2
  go_enter Tryd.func16, Tryd.ntmps16
  go_wp2
  go_loopw [10] (fun i wr => ∃ j : Nat, j ≤ cs.length ∧ i = .int .i64 j ∧ (∀ (i : Nat) (y : Chg), i < j → cs[i]? = some y → blocksL ls site now y.at_ = false) ∧ Ext w wr) (fun i _ => cs.length - (intOf i).toNat)
  case atStart => exact ⟨0, Nat.zero_le _, rfl, fun i y hi => by omega, Ext.refl _⟩
  case round =>
    obtain ⟨j, hj, rfl, hno, hx⟩ := hrel
    have HNO := Lib.hid hno; clear hno
    by_cases hlt : j < cs.length
    · obtain ⟨x, hxj⟩ : ∃ x, cs[j]? = some x := ⟨_, List.getElem?_eq_getElem hlt⟩
      obtain ⟨b', off, rfl, hbl, hrow⟩ := ch_row (HS2.out.ext hx) hxj
      have r0 := hrow 0 _ rfl
      have r1 := hrow 1 _ rfl
      have r2 := hrow 2 _ rfl
      simp only [Nat.add_zero] at r0
      have HB := Lib.hid (refBlocks_any A c ls wr (HS.out.ext hx) hb site now x.at_)
      have HX := Lib.hid hxj
      clear hrow hxj
      cases hq : blocksL ls site now x.at_
      · rw [hq] at HB
        go_wp2_with (first | (go_at_call 23; refine HB.out.mono ?_; rintro e wx ⟨rfl, xx⟩))
        go_roundw
        case rel =>
          refine ⟨j + 1, by omega, by go_num, fun i y hi h => ?_, hx.trans xx⟩
          rcases Nat.lt_succ_iff_lt_or_eq.1 hi with h1 | rfl
          · exact HNO.out i y h1 h
          · rw [HX.out] at h; injection h with h; subst h; exact hq
        case measure => simp [intOf]; omega
      · rw [hq] at HB
        have HV := Lib.hid (show blockedR ls site now cs = j from idxC_at HX.out hq HNO.out)
        go_wp2_with (first | (go_at_call 23; refine HB.out.mono ?_; rintro e wx ⟨rfl, xx⟩))
        go_ret2
        exact ⟨ret_ib (by rw [HV.out]; omega) (by rw [HV.out]; simp), hx.trans xx⟩
    · obtain rfl : j = cs.length := by omega
      have HV := Lib.hid (show blockedR ls site now cs = -1 from idxC_no HNO.out)
      go_wp2
      go_ret2
      exact ⟨ret_ib (by rw [HV.out]; rfl) (by rw [HV.out]; rfl), hx⟩

theorem neqLk_run (a b : Lk) (w : World) : (binOp .neq 52 (.agg #[.int .i64 a.site, .int .i64 a.seq, .int .i64 a.til, .int .i64 a.box.lo.x, .int .i64 a.box.lo.y, .int .i64 a.box.lo.z, .int .i64 a.box.hi.x, .int .i64 a.box.hi.y, .int .i64 a.box.hi.z]) (.agg #[.int .i64 b.site, .int .i64 b.seq, .int .i64 b.til, .int .i64 b.box.lo.x, .int .i64 b.box.lo.y, .int .i64 b.box.lo.z, .int .i64 b.box.hi.x, .int .i64 b.box.hi.y, .int .i64 b.box.hi.z])).run Tryd.prog w = .ok (.bool (decide (a ≠ b))) w := by
  obtain ⟨a1, a2, a3, ⟨⟨a4, a5, a6⟩, ⟨a7, a8, a9⟩⟩⟩ := a
  obtain ⟨b1, b2, b3, ⟨⟨b4, b5, b6⟩, ⟨b7, b8, b9⟩⟩⟩ := b
  simp [go_sem]
  by_cases h1 : a1 = b1
  · by_cases h2 : a2 = b2
    · by_cases h3 : a3 = b3
      · by_cases h4 : a4 = b4
        · by_cases h5 : a5 = b5
          · by_cases h6 : a6 = b6
            · by_cases h7 : a7 = b7
              · by_cases h8 : a8 = b8
                · by_cases h9 : a9 = b9 <;> simp [h1, h2, h3, h4, h5, h6, h7, h8, h9]
                · simp [h1, h2, h3, h4, h5, h6, h7, h8]
              · simp [h1, h2, h3, h4, h5, h6, h7]
            · simp [h1, h2, h3, h4, h5, h6]
          · simp [h1, h2, h3, h4, h5]
        · simp [h1, h2, h3, h4]
      · simp [h1, h2, h3]
    · simp [h1, h2]
  · simp [h1]
end Go.Proofs.YtjceebpafnnffaaDoor

namespace Go.Proofs.YtjceebpafnnffaaDoor
open Go Go.RowKit

theorem sameL_no {la lb : List Lk} {j : Nat} {x y : Lk} (hx : la[j]? = some x) (hy : lb[j]? = some y) (h : x ≠ y) : decide (la = lb) = false := by
  rw [decide_eq_false_iff_not]
  rintro rfl
  rw [hx] at hy
  injection hy with hy
  exact h hy
theorem sameL_yes {la lb : List Lk} (hl : la.length = lb.length) (h : ∀ (i : Nat) (x y : Lk), i < la.length → la[i]? = some x → lb[i]? = some y → x = y) : decide (la = lb) = true := by
  rw [decide_eq_true_iff]
  apply List.ext_getElem hl
  intro i h1 h2
  exact h i _ _ h1 (List.getElem?_eq_getElem h1) (List.getElem?_eq_getElem h2)
set_option maxRecDepth 100000 in
set_option maxHeartbeats 4000000 in
theorem refSame_any (A A2 : Option Addr) (c c2 : Nat) (la lb : List Lk) (w : World) (hs : Sv w w.heap.size 9 A c (rowsL la)) (hs2 : Sv w w.heap.size 9 A2 c2 (rowsL lb)) :
    Calls Tryd.prog 17 #[.slice A la.length c, .slice A2 lb.length c2] w fun e w' => e = .returned (.bool (decide (la = lb))) ∧ Ext w w' := by
  have hm := mixed
  have hG := near_old
  have hln : la.length ≤ 9223372036854775807 := by have h := hs.len; rw [rowsL_length] at h; exact h
  have HS := Lib.hid hs; clear hs
  have HS2 := Lib.hid hs2; clear hs2
  by_cases hl : la.length = lb.length
  · have HL := Lib.hid hl
    have hb : ((la.length : Int) != (lb.length : Int)) = false := by simp [hl]
    clear hl
    go_enter Tryd.func17, Tryd.ntmps17
    go_wp2
    go_loopw [5] (fun i wr => ∃ j : Nat, j ≤ la.length ∧ i = .int .i64 j ∧ (∀ (i : Nat) (x y : Lk), i < j → la[i]? = some x → lb[i]? = some y → x = y) ∧ Ext w wr) (fun i _ => la.length - (intOf i).toNat)
    case atStart => exact ⟨0, Nat.zero_le _, rfl, fun i x y hi => by omega, Ext.refl _⟩
    case round =>
      obtain ⟨j, hj, rfl, hno, hx⟩ := hrel
      have HNO := Lib.hid hno; clear hno
      have HX := Lib.hid hx
      by_cases hlt : j < la.length
      · obtain ⟨x, hxj⟩ : ∃ x, la[j]? = some x := ⟨_, List.getElem?_eq_getElem hlt⟩
        have hlt2 : j < lb.length := by have := HL.out; omega
        obtain ⟨y, hyj⟩ : ∃ y, lb[j]? = some y := ⟨_, List.getElem?_eq_getElem hlt2⟩
        obtain ⟨b', off, rfl, hbl, hrow⟩ := lk_row (HS.out.ext hx) hxj
        obtain ⟨b2, off2, rfl, hbl2, hrow2⟩ := lk_row (HS2.out.ext hx) hyj
        have r0 := hrow 0 _ rfl
        have r1 := hrow 1 _ rfl
        have r2 := hrow 2 _ rfl
        have r3 := hrow 3 _ rfl
        have r4 := hrow 4 _ rfl
        have r5 := hrow 5 _ rfl
        have r6 := hrow 6 _ rfl
        have r7 := hrow 7 _ rfl
        have r8 := hrow 8 _ rfl
        have q0 := hrow2 0 _ rfl
        have q1 := hrow2 1 _ rfl
        have q2 := hrow2 2 _ rfl
        have q3 := hrow2 3 _ rfl
        have q4 := hrow2 4 _ rfl
        have q5 := hrow2 5 _ rfl
        have q6 := hrow2 6 _ rfl
        have q7 := hrow2 7 _ rfl
        have q8 := hrow2 8 _ rfl
        simp only [Nat.add_zero] at r0 q0
        have hn := neqLk_run x y
        have HXJ := Lib.hid hxj
        have HYJ := Lib.hid hyj
        generalize hbe : decide (x ≠ y) = be at hn
        have HBE := Lib.hid hbe
        clear hrow hrow2 hxj hyj hbe hx
        cases be
        · go_wp2_with fail
          refine wp_region_near (by assumption) (by kernel_rfl) ?_
          repeat (go_big_quiet_step (fail))
          refine wpQuiet_nil ?_
          intro w1 hw1
          have hy := Ext.of_near hw1
          clear hw1
          go_wp2
          go_roundw
          case rel =>
            refine ⟨j + 1, by omega, by go_num, fun i x' y' hi h h' => ?_, HX.out.trans hy⟩
            rcases Nat.lt_succ_iff_lt_or_eq.1 hi with h1 | rfl
            · exact HNO.out i x' y' h1 h h'
            · rw [HXJ.out] at h; injection h with h; rw [HYJ.out] at h'; injection h' with h'; subst h h'; simpa using HBE.out
          case measure => simp [intOf]; omega
        · go_wp2_with fail
          refine wp_region_near (by assumption) (by kernel_rfl) ?_
          repeat (go_big_quiet_step (fail))
          refine wpQuiet_nil ?_
          intro w1 hw1
          have hy := Ext.of_near hw1
          clear hw1
          go_wp2
          go_ret
          exact ⟨ret_bool (sameL_no HXJ.out HYJ.out (by simpa using HBE.out)).symm, HX.out.trans hy⟩
      · obtain rfl : j = la.length := by omega
        go_wp2
        go_ret
        exact ⟨ret_bool (sameL_yes HL.out HNO.out).symm, HX.out⟩
  · have hb : ((la.length : Int) != (lb.length : Int)) = true := by rw [bne_iff_ne]; omega
    have HL := Lib.hid hl
    clear hl
    go_enter Tryd.func17, Tryd.ntmps17
    go_wp2
    go_ret
    exact ⟨ret_bool (decide_eq_false (fun h => HL.out (by rw [h]))).symm, Ext.refl _⟩
end Go.Proofs.YtjceebpafnnffaaDoor

namespace Go.Proofs.YtjceebpafnnffaaDoor
open Go Go.RowKit

set_option maxHeartbeats 4000000 in
theorem refFormed_out (x : Ed) (w : World) (hk : ¬ (1 ≤ x.kind ∧ x.kind ≤ 8)) :
    Calls Tryd.prog 64 #[.agg #[.int .i64 x.st.tick, .int .i64 x.st.clock, .int .i64 x.st.site, .int .i64 x.st.seq, .int .i64 x.kind, .int .i64 x.box.lo.x, .int .i64 x.box.lo.y, .int .i64 x.box.lo.z, .int .i64 x.box.hi.x, .int .i64 x.box.hi.y, .int .i64 x.box.hi.z, .int .i64 x.at_.x, .int .i64 x.at_.y, .int .i64 x.at_.z, .int .i64 x.turn, .int .i64 x.cell, .int .i64 x.size]] w fun e w' => e = .returned (.bool false) ∧ Ext w w' := by
  have HV := Lib.hid (fun w => refValid24_any x.st w)
  obtain ⟨st, kind, box, at_, turn, cell, size⟩ := x
  simp only at hk HV
  have hqb := eqBx_run box zeroBx
  have hqp := eqPt_run at_ zeroPt
  simp only [zeroBx, zeroPt] at hqb hqp
  generalize decide (box = ⟨⟨0, 0, 0⟩, ⟨0, 0, 0⟩⟩) = eb at hqb
  generalize decide (at_ = ⟨0, 0, 0⟩) = ep at hqp
  have k1 : (kind == 1) = false := beq_eq_false_iff_ne.2 (by omega)
  have k2 : (kind == 2) = false := beq_eq_false_iff_ne.2 (by omega)
  have k3 : (kind == 3) = false := beq_eq_false_iff_ne.2 (by omega)
  have k4 : (kind == 4) = false := beq_eq_false_iff_ne.2 (by omega)
  have k5 : (kind == 5) = false := beq_eq_false_iff_ne.2 (by omega)
  have k6 : (kind == 6) = false := beq_eq_false_iff_ne.2 (by omega)
  have k7 : (kind == 7) = false := beq_eq_false_iff_ne.2 (by omega)
  have k8 : (kind == 8) = false := beq_eq_false_iff_ne.2 (by omega)
  clear hk
  go_enter Tryd.func64, Tryd.ntmps64
  go_wp2_with (first | (go_at_call 80; refine (HV.out _).mono ?_; rintro e wx ⟨rfl, xx⟩; obtain ⟨xc, xf, xl, xe, xn, xm⟩ := xx.look; have xz := xx.size; (try simp only [World.size_alloc_] at xz); (try (have qh := xx.one (b := w.heap.size) (by (try simp only [World.size_alloc_]); omega); obtain ⟨qc, qf, ql, qe, qn, qm⟩ := qh)); (try (have qh := xx.one (b := w.heap.size + 1) (by (try simp only [World.size_alloc_]); omega); obtain ⟨qc, qf, ql, qe, qn, qm⟩ := qh)); (try (have qh := xx.one (b := w.heap.size + 1 + 1) (by (try simp only [World.size_alloc_]); omega); obtain ⟨qc, qf, ql, qe, qn, qm⟩ := qh)); (try (have qh := xx.one (b := w.heap.size + 1 + 1 + 1) (by (try simp only [World.size_alloc_]); omega); obtain ⟨qc, qf, ql, qe, qn, qm⟩ := qh))))
  go_ret
  exact ⟨rfl, (by repeat (first | with_reducible exact Ext.refl _ | with_reducible assumption | with_reducible refine Ext.alloc ?_ _ | with_reducible refine Ext.drew ?_ | (with_reducible refine Ext.setCell ?_ ?_ _; rotate_left; focus (first | (simp; done) | (simp; omega) | omega)) | (with_reducible refine Ext.setRow ?_ ?_ _; rotate_left; focus (first | (simp; done) | (simp; omega) | omega)) | with_reducible refine Ext.trans ?_ (by with_reducible assumption)))⟩

set_option maxHeartbeats 4000000 in
theorem refFormed_1 (x : Ed) (w : World) (hk : x.kind = 1) :
    Calls Tryd.prog 64 #[.agg #[.int .i64 x.st.tick, .int .i64 x.st.clock, .int .i64 x.st.site, .int .i64 x.st.seq, .int .i64 x.kind, .int .i64 x.box.lo.x, .int .i64 x.box.lo.y, .int .i64 x.box.lo.z, .int .i64 x.box.hi.x, .int .i64 x.box.hi.y, .int .i64 x.box.hi.z, .int .i64 x.at_.x, .int .i64 x.at_.y, .int .i64 x.at_.z, .int .i64 x.turn, .int .i64 x.cell, .int .i64 x.size]] w fun e w' => e = .returned (.bool (formedE x)) ∧ Ext w w' := by
  have HF := Lib.hid (formedE_def x)
  have HV := Lib.hid (fun w => refValid24_any x.st w)
  obtain ⟨st, kind, box, at_, turn, cell, size⟩ := x
  simp only at hk
  subst hk
  have hqb := eqBx_run box zeroBx
  have hqp := eqPt_run at_ zeroPt
  simp only [zeroBx, zeroPt] at hqb hqp HF HV
  have hu1 : usesF 1 1 = true := rfl
  have hu2 : usesF 1 2 = false := rfl
  have hu4 : usesF 1 4 = false := rfl
  have hu8 : usesF 1 8 = true := rfl
  have hu16 : usesF 1 16 = false := rfl
  generalize validS st = bv at HF HV
  simp only [hu1, hu2, hu4, hu8, hu16] at HF
  go_enter Tryd.func64, Tryd.ntmps64
  go_wp2_with (first | (go_at_call 80; refine (HV.out _).mono ?_; rintro e wx ⟨rfl, xx⟩; obtain ⟨xc, xf, xl, xe, xn, xm⟩ := xx.look; have xz := xx.size; (try simp only [World.size_alloc_] at xz); (try (have qh := xx.one (b := w.heap.size) (by (try simp only [World.size_alloc_]); omega); obtain ⟨qc, qf, ql, qe, qn, qm⟩ := qh)); (try (have qh := xx.one (b := w.heap.size + 1) (by (try simp only [World.size_alloc_]); omega); obtain ⟨qc, qf, ql, qe, qn, qm⟩ := qh)); (try (have qh := xx.one (b := w.heap.size + 1 + 1) (by (try simp only [World.size_alloc_]); omega); obtain ⟨qc, qf, ql, qe, qn, qm⟩ := qh)); (try (have qh := xx.one (b := w.heap.size + 1 + 1 + 1) (by (try simp only [World.size_alloc_]); omega); obtain ⟨qc, qf, ql, qe, qn, qm⟩ := qh))))
  all_goals
    go_ret
    rw [HF.out]
    exact ⟨ret_bool (by first | rfl | (simp [*]; done) | (rw [Bool.eq_iff_iff]; simp [*]; done)), (by repeat (first | with_reducible exact Ext.refl _ | with_reducible assumption | with_reducible refine Ext.alloc ?_ _ | with_reducible refine Ext.drew ?_ | (with_reducible refine Ext.setCell ?_ ?_ _; rotate_left; focus (first | (simp; done) | (simp; omega) | omega)) | (with_reducible refine Ext.setRow ?_ ?_ _; rotate_left; focus (first | (simp; done) | (simp; omega) | omega)) | with_reducible refine Ext.trans ?_ (by with_reducible assumption)))⟩

set_option maxHeartbeats 4000000 in
theorem refFormed_2 (x : Ed) (w : World) (hk : x.kind = 2) :
    Calls Tryd.prog 64 #[.agg #[.int .i64 x.st.tick, .int .i64 x.st.clock, .int .i64 x.st.site, .int .i64 x.st.seq, .int .i64 x.kind, .int .i64 x.box.lo.x, .int .i64 x.box.lo.y, .int .i64 x.box.lo.z, .int .i64 x.box.hi.x, .int .i64 x.box.hi.y, .int .i64 x.box.hi.z, .int .i64 x.at_.x, .int .i64 x.at_.y, .int .i64 x.at_.z, .int .i64 x.turn, .int .i64 x.cell, .int .i64 x.size]] w fun e w' => e = .returned (.bool (formedE x)) ∧ Ext w w' := by
  have HF := Lib.hid (formedE_def x)
  have HV := Lib.hid (fun w => refValid24_any x.st w)
  obtain ⟨st, kind, box, at_, turn, cell, size⟩ := x
  simp only at hk
  subst hk
  have hqb := eqBx_run box zeroBx
  have hqp := eqPt_run at_ zeroPt
  simp only [zeroBx, zeroPt] at hqb hqp HF HV
  have hu1 : usesF 2 1 = false := rfl
  have hu2 : usesF 2 2 = true := rfl
  have hu4 : usesF 2 4 = false := rfl
  have hu8 : usesF 2 8 = true := rfl
  have hu16 : usesF 2 16 = true := rfl
  generalize validS st = bv at HF HV
  simp only [hu1, hu2, hu4, hu8, hu16] at HF
  go_enter Tryd.func64, Tryd.ntmps64
  go_wp2_with (first | (go_at_call 80; refine (HV.out _).mono ?_; rintro e wx ⟨rfl, xx⟩; obtain ⟨xc, xf, xl, xe, xn, xm⟩ := xx.look; have xz := xx.size; (try simp only [World.size_alloc_] at xz); (try (have qh := xx.one (b := w.heap.size) (by (try simp only [World.size_alloc_]); omega); obtain ⟨qc, qf, ql, qe, qn, qm⟩ := qh)); (try (have qh := xx.one (b := w.heap.size + 1) (by (try simp only [World.size_alloc_]); omega); obtain ⟨qc, qf, ql, qe, qn, qm⟩ := qh)); (try (have qh := xx.one (b := w.heap.size + 1 + 1) (by (try simp only [World.size_alloc_]); omega); obtain ⟨qc, qf, ql, qe, qn, qm⟩ := qh)); (try (have qh := xx.one (b := w.heap.size + 1 + 1 + 1) (by (try simp only [World.size_alloc_]); omega); obtain ⟨qc, qf, ql, qe, qn, qm⟩ := qh))))
  all_goals
    go_ret
    rw [HF.out]
    exact ⟨ret_bool (by first | rfl | (simp [*]; done) | (rw [Bool.eq_iff_iff]; simp [*]; done)), (by repeat (first | with_reducible exact Ext.refl _ | with_reducible assumption | with_reducible refine Ext.alloc ?_ _ | with_reducible refine Ext.drew ?_ | (with_reducible refine Ext.setCell ?_ ?_ _; rotate_left; focus (first | (simp; done) | (simp; omega) | omega)) | (with_reducible refine Ext.setRow ?_ ?_ _; rotate_left; focus (first | (simp; done) | (simp; omega) | omega)) | with_reducible refine Ext.trans ?_ (by with_reducible assumption)))⟩

set_option maxHeartbeats 4000000 in
theorem refFormed_3 (x : Ed) (w : World) (hk : x.kind = 3) :
    Calls Tryd.prog 64 #[.agg #[.int .i64 x.st.tick, .int .i64 x.st.clock, .int .i64 x.st.site, .int .i64 x.st.seq, .int .i64 x.kind, .int .i64 x.box.lo.x, .int .i64 x.box.lo.y, .int .i64 x.box.lo.z, .int .i64 x.box.hi.x, .int .i64 x.box.hi.y, .int .i64 x.box.hi.z, .int .i64 x.at_.x, .int .i64 x.at_.y, .int .i64 x.at_.z, .int .i64 x.turn, .int .i64 x.cell, .int .i64 x.size]] w fun e w' => e = .returned (.bool (formedE x)) ∧ Ext w w' := by
  have HF := Lib.hid (formedE_def x)
  have HV := Lib.hid (fun w => refValid24_any x.st w)
  obtain ⟨st, kind, box, at_, turn, cell, size⟩ := x
  simp only at hk
  subst hk
  have hqb := eqBx_run box zeroBx
  have hqp := eqPt_run at_ zeroPt
  simp only [zeroBx, zeroPt] at hqb hqp HF HV
  have hu1 : usesF 3 1 = true := rfl
  have hu2 : usesF 3 2 = false := rfl
  have hu4 : usesF 3 4 = true := rfl
  have hu8 : usesF 3 8 = true := rfl
  have hu16 : usesF 3 16 = false := rfl
  generalize validS st = bv at HF HV
  simp only [hu1, hu2, hu4, hu8, hu16] at HF
  go_enter Tryd.func64, Tryd.ntmps64
  go_wp2_with (first | (go_at_call 80; refine (HV.out _).mono ?_; rintro e wx ⟨rfl, xx⟩; obtain ⟨xc, xf, xl, xe, xn, xm⟩ := xx.look; have xz := xx.size; (try simp only [World.size_alloc_] at xz); (try (have qh := xx.one (b := w.heap.size) (by (try simp only [World.size_alloc_]); omega); obtain ⟨qc, qf, ql, qe, qn, qm⟩ := qh)); (try (have qh := xx.one (b := w.heap.size + 1) (by (try simp only [World.size_alloc_]); omega); obtain ⟨qc, qf, ql, qe, qn, qm⟩ := qh)); (try (have qh := xx.one (b := w.heap.size + 1 + 1) (by (try simp only [World.size_alloc_]); omega); obtain ⟨qc, qf, ql, qe, qn, qm⟩ := qh)); (try (have qh := xx.one (b := w.heap.size + 1 + 1 + 1) (by (try simp only [World.size_alloc_]); omega); obtain ⟨qc, qf, ql, qe, qn, qm⟩ := qh))))
  all_goals
    go_ret
    rw [HF.out]
    exact ⟨ret_bool (by first | rfl | (simp [*]; done) | (rw [Bool.eq_iff_iff]; simp [*]; done)), (by repeat (first | with_reducible exact Ext.refl _ | with_reducible assumption | with_reducible refine Ext.alloc ?_ _ | with_reducible refine Ext.drew ?_ | (with_reducible refine Ext.setCell ?_ ?_ _; rotate_left; focus (first | (simp; done) | (simp; omega) | omega)) | (with_reducible refine Ext.setRow ?_ ?_ _; rotate_left; focus (first | (simp; done) | (simp; omega) | omega)) | with_reducible refine Ext.trans ?_ (by with_reducible assumption)))⟩

set_option maxHeartbeats 4000000 in
theorem refFormed_4 (x : Ed) (w : World) (hk : x.kind = 4) :
    Calls Tryd.prog 64 #[.agg #[.int .i64 x.st.tick, .int .i64 x.st.clock, .int .i64 x.st.site, .int .i64 x.st.seq, .int .i64 x.kind, .int .i64 x.box.lo.x, .int .i64 x.box.lo.y, .int .i64 x.box.lo.z, .int .i64 x.box.hi.x, .int .i64 x.box.hi.y, .int .i64 x.box.hi.z, .int .i64 x.at_.x, .int .i64 x.at_.y, .int .i64 x.at_.z, .int .i64 x.turn, .int .i64 x.cell, .int .i64 x.size]] w fun e w' => e = .returned (.bool (formedE x)) ∧ Ext w w' := by
  have HF := Lib.hid (formedE_def x)
  have HV := Lib.hid (fun w => refValid24_any x.st w)
  obtain ⟨st, kind, box, at_, turn, cell, size⟩ := x
  simp only at hk
  subst hk
  have hqb := eqBx_run box zeroBx
  have hqp := eqPt_run at_ zeroPt
  simp only [zeroBx, zeroPt] at hqb hqp HF HV
  have hu1 : usesF 4 1 = true := rfl
  have hu2 : usesF 4 2 = true := rfl
  have hu4 : usesF 4 4 = true := rfl
  have hu8 : usesF 4 8 = false := rfl
  have hu16 : usesF 4 16 = false := rfl
  generalize validS st = bv at HF HV
  simp only [hu1, hu2, hu4, hu8, hu16] at HF
  go_enter Tryd.func64, Tryd.ntmps64
  go_wp2_with (first | (go_at_call 80; refine (HV.out _).mono ?_; rintro e wx ⟨rfl, xx⟩; obtain ⟨xc, xf, xl, xe, xn, xm⟩ := xx.look; have xz := xx.size; (try simp only [World.size_alloc_] at xz); (try (have qh := xx.one (b := w.heap.size) (by (try simp only [World.size_alloc_]); omega); obtain ⟨qc, qf, ql, qe, qn, qm⟩ := qh)); (try (have qh := xx.one (b := w.heap.size + 1) (by (try simp only [World.size_alloc_]); omega); obtain ⟨qc, qf, ql, qe, qn, qm⟩ := qh)); (try (have qh := xx.one (b := w.heap.size + 1 + 1) (by (try simp only [World.size_alloc_]); omega); obtain ⟨qc, qf, ql, qe, qn, qm⟩ := qh)); (try (have qh := xx.one (b := w.heap.size + 1 + 1 + 1) (by (try simp only [World.size_alloc_]); omega); obtain ⟨qc, qf, ql, qe, qn, qm⟩ := qh))))
  all_goals
    go_ret
    rw [HF.out]
    exact ⟨ret_bool (by first | rfl | (simp [*]; done) | (rw [Bool.eq_iff_iff]; simp [*]; done)), (by repeat (first | with_reducible exact Ext.refl _ | with_reducible assumption | with_reducible refine Ext.alloc ?_ _ | with_reducible refine Ext.drew ?_ | (with_reducible refine Ext.setCell ?_ ?_ _; rotate_left; focus (first | (simp; done) | (simp; omega) | omega)) | (with_reducible refine Ext.setRow ?_ ?_ _; rotate_left; focus (first | (simp; done) | (simp; omega) | omega)) | with_reducible refine Ext.trans ?_ (by with_reducible assumption)))⟩

set_option maxHeartbeats 4000000 in
theorem refFormed_5 (x : Ed) (w : World) (hk : x.kind = 5) :
    Calls Tryd.prog 64 #[.agg #[.int .i64 x.st.tick, .int .i64 x.st.clock, .int .i64 x.st.site, .int .i64 x.st.seq, .int .i64 x.kind, .int .i64 x.box.lo.x, .int .i64 x.box.lo.y, .int .i64 x.box.lo.z, .int .i64 x.box.hi.x, .int .i64 x.box.hi.y, .int .i64 x.box.hi.z, .int .i64 x.at_.x, .int .i64 x.at_.y, .int .i64 x.at_.z, .int .i64 x.turn, .int .i64 x.cell, .int .i64 x.size]] w fun e w' => e = .returned (.bool (formedE x)) ∧ Ext w w' := by
  have HF := Lib.hid (formedE_def x)
  have HV := Lib.hid (fun w => refValid24_any x.st w)
  obtain ⟨st, kind, box, at_, turn, cell, size⟩ := x
  simp only at hk
  subst hk
  have hqb := eqBx_run box zeroBx
  have hqp := eqPt_run at_ zeroPt
  simp only [zeroBx, zeroPt] at hqb hqp HF HV
  have hu1 : usesF 5 1 = false := rfl
  have hu2 : usesF 5 2 = true := rfl
  have hu4 : usesF 5 4 = false := rfl
  have hu8 : usesF 5 8 = true := rfl
  have hu16 : usesF 5 16 = true := rfl
  generalize validS st = bv at HF HV
  simp only [hu1, hu2, hu4, hu8, hu16] at HF
  go_enter Tryd.func64, Tryd.ntmps64
  go_wp2_with (first | (go_at_call 80; refine (HV.out _).mono ?_; rintro e wx ⟨rfl, xx⟩; obtain ⟨xc, xf, xl, xe, xn, xm⟩ := xx.look; have xz := xx.size; (try simp only [World.size_alloc_] at xz); (try (have qh := xx.one (b := w.heap.size) (by (try simp only [World.size_alloc_]); omega); obtain ⟨qc, qf, ql, qe, qn, qm⟩ := qh)); (try (have qh := xx.one (b := w.heap.size + 1) (by (try simp only [World.size_alloc_]); omega); obtain ⟨qc, qf, ql, qe, qn, qm⟩ := qh)); (try (have qh := xx.one (b := w.heap.size + 1 + 1) (by (try simp only [World.size_alloc_]); omega); obtain ⟨qc, qf, ql, qe, qn, qm⟩ := qh)); (try (have qh := xx.one (b := w.heap.size + 1 + 1 + 1) (by (try simp only [World.size_alloc_]); omega); obtain ⟨qc, qf, ql, qe, qn, qm⟩ := qh))))
  all_goals
    go_ret
    rw [HF.out]
    exact ⟨ret_bool (by first | rfl | (simp [*]; done) | (rw [Bool.eq_iff_iff]; simp [*]; done)), (by repeat (first | with_reducible exact Ext.refl _ | with_reducible assumption | with_reducible refine Ext.alloc ?_ _ | with_reducible refine Ext.drew ?_ | (with_reducible refine Ext.setCell ?_ ?_ _; rotate_left; focus (first | (simp; done) | (simp; omega) | omega)) | (with_reducible refine Ext.setRow ?_ ?_ _; rotate_left; focus (first | (simp; done) | (simp; omega) | omega)) | with_reducible refine Ext.trans ?_ (by with_reducible assumption)))⟩

set_option maxHeartbeats 4000000 in
theorem refFormed_6 (x : Ed) (w : World) (hk : x.kind = 6) :
    Calls Tryd.prog 64 #[.agg #[.int .i64 x.st.tick, .int .i64 x.st.clock, .int .i64 x.st.site, .int .i64 x.st.seq, .int .i64 x.kind, .int .i64 x.box.lo.x, .int .i64 x.box.lo.y, .int .i64 x.box.lo.z, .int .i64 x.box.hi.x, .int .i64 x.box.hi.y, .int .i64 x.box.hi.z, .int .i64 x.at_.x, .int .i64 x.at_.y, .int .i64 x.at_.z, .int .i64 x.turn, .int .i64 x.cell, .int .i64 x.size]] w fun e w' => e = .returned (.bool (formedE x)) ∧ Ext w w' := by
  have HF := Lib.hid (formedE_def x)
  have HV := Lib.hid (fun w => refValid24_any x.st w)
  obtain ⟨st, kind, box, at_, turn, cell, size⟩ := x
  simp only at hk
  subst hk
  have hqb := eqBx_run box zeroBx
  have hqp := eqPt_run at_ zeroPt
  simp only [zeroBx, zeroPt] at hqb hqp HF HV
  have hu1 : usesF 6 1 = false := rfl
  have hu2 : usesF 6 2 = false := rfl
  have hu4 : usesF 6 4 = false := rfl
  have hu8 : usesF 6 8 = false := rfl
  have hu16 : usesF 6 16 = true := rfl
  generalize validS st = bv at HF HV
  simp only [hu1, hu2, hu4, hu8, hu16] at HF
  go_enter Tryd.func64, Tryd.ntmps64
  go_wp2_with (first | (go_at_call 80; refine (HV.out _).mono ?_; rintro e wx ⟨rfl, xx⟩; obtain ⟨xc, xf, xl, xe, xn, xm⟩ := xx.look; have xz := xx.size; (try simp only [World.size_alloc_] at xz); (try (have qh := xx.one (b := w.heap.size) (by (try simp only [World.size_alloc_]); omega); obtain ⟨qc, qf, ql, qe, qn, qm⟩ := qh)); (try (have qh := xx.one (b := w.heap.size + 1) (by (try simp only [World.size_alloc_]); omega); obtain ⟨qc, qf, ql, qe, qn, qm⟩ := qh)); (try (have qh := xx.one (b := w.heap.size + 1 + 1) (by (try simp only [World.size_alloc_]); omega); obtain ⟨qc, qf, ql, qe, qn, qm⟩ := qh)); (try (have qh := xx.one (b := w.heap.size + 1 + 1 + 1) (by (try simp only [World.size_alloc_]); omega); obtain ⟨qc, qf, ql, qe, qn, qm⟩ := qh))))
  all_goals
    go_ret
    rw [HF.out]
    exact ⟨ret_bool (by first | rfl | (simp [*]; done) | (rw [Bool.eq_iff_iff]; simp [*]; done)), (by repeat (first | with_reducible exact Ext.refl _ | with_reducible assumption | with_reducible refine Ext.alloc ?_ _ | with_reducible refine Ext.drew ?_ | (with_reducible refine Ext.setCell ?_ ?_ _; rotate_left; focus (first | (simp; done) | (simp; omega) | omega)) | (with_reducible refine Ext.setRow ?_ ?_ _; rotate_left; focus (first | (simp; done) | (simp; omega) | omega)) | with_reducible refine Ext.trans ?_ (by with_reducible assumption)))⟩

set_option maxHeartbeats 4000000 in
theorem refFormed_7 (x : Ed) (w : World) (hk : x.kind = 7) :
    Calls Tryd.prog 64 #[.agg #[.int .i64 x.st.tick, .int .i64 x.st.clock, .int .i64 x.st.site, .int .i64 x.st.seq, .int .i64 x.kind, .int .i64 x.box.lo.x, .int .i64 x.box.lo.y, .int .i64 x.box.lo.z, .int .i64 x.box.hi.x, .int .i64 x.box.hi.y, .int .i64 x.box.hi.z, .int .i64 x.at_.x, .int .i64 x.at_.y, .int .i64 x.at_.z, .int .i64 x.turn, .int .i64 x.cell, .int .i64 x.size]] w fun e w' => e = .returned (.bool (formedE x)) ∧ Ext w w' := by
  have HF := Lib.hid (formedE_def x)
  have HV := Lib.hid (fun w => refValid24_any x.st w)
  obtain ⟨st, kind, box, at_, turn, cell, size⟩ := x
  simp only at hk
  subst hk
  have hqb := eqBx_run box zeroBx
  have hqp := eqPt_run at_ zeroPt
  simp only [zeroBx, zeroPt] at hqb hqp HF HV
  have hu1 : usesF 7 1 = true := rfl
  have hu2 : usesF 7 2 = false := rfl
  have hu4 : usesF 7 4 = false := rfl
  have hu8 : usesF 7 8 = false := rfl
  have hu16 : usesF 7 16 = true := rfl
  generalize validS st = bv at HF HV
  simp only [hu1, hu2, hu4, hu8, hu16] at HF
  go_enter Tryd.func64, Tryd.ntmps64
  go_wp2_with (first | (go_at_call 80; refine (HV.out _).mono ?_; rintro e wx ⟨rfl, xx⟩; obtain ⟨xc, xf, xl, xe, xn, xm⟩ := xx.look; have xz := xx.size; (try simp only [World.size_alloc_] at xz); (try (have qh := xx.one (b := w.heap.size) (by (try simp only [World.size_alloc_]); omega); obtain ⟨qc, qf, ql, qe, qn, qm⟩ := qh)); (try (have qh := xx.one (b := w.heap.size + 1) (by (try simp only [World.size_alloc_]); omega); obtain ⟨qc, qf, ql, qe, qn, qm⟩ := qh)); (try (have qh := xx.one (b := w.heap.size + 1 + 1) (by (try simp only [World.size_alloc_]); omega); obtain ⟨qc, qf, ql, qe, qn, qm⟩ := qh)); (try (have qh := xx.one (b := w.heap.size + 1 + 1 + 1) (by (try simp only [World.size_alloc_]); omega); obtain ⟨qc, qf, ql, qe, qn, qm⟩ := qh))))
  all_goals
    go_ret
    rw [HF.out]
    exact ⟨ret_bool (by first | rfl | (simp [*]; done) | (rw [Bool.eq_iff_iff]; simp [*]; done)), (by repeat (first | with_reducible exact Ext.refl _ | with_reducible assumption | with_reducible refine Ext.alloc ?_ _ | with_reducible refine Ext.drew ?_ | (with_reducible refine Ext.setCell ?_ ?_ _; rotate_left; focus (first | (simp; done) | (simp; omega) | omega)) | (with_reducible refine Ext.setRow ?_ ?_ _; rotate_left; focus (first | (simp; done) | (simp; omega) | omega)) | with_reducible refine Ext.trans ?_ (by with_reducible assumption)))⟩

set_option maxHeartbeats 4000000 in
theorem refFormed_8 (x : Ed) (w : World) (hk : x.kind = 8) :
    Calls Tryd.prog 64 #[.agg #[.int .i64 x.st.tick, .int .i64 x.st.clock, .int .i64 x.st.site, .int .i64 x.st.seq, .int .i64 x.kind, .int .i64 x.box.lo.x, .int .i64 x.box.lo.y, .int .i64 x.box.lo.z, .int .i64 x.box.hi.x, .int .i64 x.box.hi.y, .int .i64 x.box.hi.z, .int .i64 x.at_.x, .int .i64 x.at_.y, .int .i64 x.at_.z, .int .i64 x.turn, .int .i64 x.cell, .int .i64 x.size]] w fun e w' => e = .returned (.bool (formedE x)) ∧ Ext w w' := by
  have HF := Lib.hid (formedE_def x)
  have HV := Lib.hid (fun w => refValid24_any x.st w)
  obtain ⟨st, kind, box, at_, turn, cell, size⟩ := x
  simp only at hk
  subst hk
  have hqb := eqBx_run box zeroBx
  have hqp := eqPt_run at_ zeroPt
  simp only [zeroBx, zeroPt] at hqb hqp HF HV
  have hu1 : usesF 8 1 = false := rfl
  have hu2 : usesF 8 2 = false := rfl
  have hu4 : usesF 8 4 = false := rfl
  have hu8 : usesF 8 8 = false := rfl
  have hu16 : usesF 8 16 = true := rfl
  generalize validS st = bv at HF HV
  simp only [hu1, hu2, hu4, hu8, hu16] at HF
  go_enter Tryd.func64, Tryd.ntmps64
  go_wp2_with (first | (go_at_call 80; refine (HV.out _).mono ?_; rintro e wx ⟨rfl, xx⟩; obtain ⟨xc, xf, xl, xe, xn, xm⟩ := xx.look; have xz := xx.size; (try simp only [World.size_alloc_] at xz); (try (have qh := xx.one (b := w.heap.size) (by (try simp only [World.size_alloc_]); omega); obtain ⟨qc, qf, ql, qe, qn, qm⟩ := qh)); (try (have qh := xx.one (b := w.heap.size + 1) (by (try simp only [World.size_alloc_]); omega); obtain ⟨qc, qf, ql, qe, qn, qm⟩ := qh)); (try (have qh := xx.one (b := w.heap.size + 1 + 1) (by (try simp only [World.size_alloc_]); omega); obtain ⟨qc, qf, ql, qe, qn, qm⟩ := qh)); (try (have qh := xx.one (b := w.heap.size + 1 + 1 + 1) (by (try simp only [World.size_alloc_]); omega); obtain ⟨qc, qf, ql, qe, qn, qm⟩ := qh))))
  all_goals
    go_ret
    rw [HF.out]
    exact ⟨ret_bool (by first | rfl | (simp [*]; done) | (rw [Bool.eq_iff_iff]; simp [*]; done)), (by repeat (first | with_reducible exact Ext.refl _ | with_reducible assumption | with_reducible refine Ext.alloc ?_ _ | with_reducible refine Ext.drew ?_ | (with_reducible refine Ext.setCell ?_ ?_ _; rotate_left; focus (first | (simp; done) | (simp; omega) | omega)) | (with_reducible refine Ext.setRow ?_ ?_ _; rotate_left; focus (first | (simp; done) | (simp; omega) | omega)) | with_reducible refine Ext.trans ?_ (by with_reducible assumption)))⟩

theorem refFormed_any (x : Ed) (w : World) :
    Calls Tryd.prog 64 #[.agg #[.int .i64 x.st.tick, .int .i64 x.st.clock, .int .i64 x.st.site, .int .i64 x.st.seq, .int .i64 x.kind, .int .i64 x.box.lo.x, .int .i64 x.box.lo.y, .int .i64 x.box.lo.z, .int .i64 x.box.hi.x, .int .i64 x.box.hi.y, .int .i64 x.box.hi.z, .int .i64 x.at_.x, .int .i64 x.at_.y, .int .i64 x.at_.z, .int .i64 x.turn, .int .i64 x.cell, .int .i64 x.size]] w fun e w' => e = .returned (.bool (formedE x)) ∧ Ext w w' := by
  by_cases hk : 1 ≤ x.kind ∧ x.kind ≤ 8
  · obtain hk | hk | hk | hk | hk | hk | hk | hk : x.kind = 1 ∨ x.kind = 2 ∨ x.kind = 3 ∨ x.kind = 4 ∨ x.kind = 5 ∨ x.kind = 6 ∨ x.kind = 7 ∨ x.kind = 8 := by omega
    · exact refFormed_1 x w hk
    · exact refFormed_2 x w hk
    · exact refFormed_3 x w hk
    · exact refFormed_4 x w hk
    · exact refFormed_5 x w hk
    · exact refFormed_6 x w hk
    · exact refFormed_7 x w hk
    · exact refFormed_8 x w hk
  · have hf : formedE x = false := by
      rw [formedE_def, decide_eq_false hk]; simp
    rw [hf]
    exact refFormed_out x w hk
set_option maxHeartbeats 1000000 in
theorem refcube_any (d : Int) (hd : 2 ≤ d ∧ d ≤ 14) (w : World) :
    Calls Tryd.prog 65 #[.int .i64 d] w fun e w' => e = .returned (.agg #[.int .i64 (cubeB (2 ^ d.toNat)).lo.x, .int .i64 (cubeB (2 ^ d.toNat)).lo.y, .int .i64 (cubeB (2 ^ d.toNat)).lo.z, .int .i64 (cubeB (2 ^ d.toNat)).hi.x, .int .i64 (cubeB (2 ^ d.toNat)).hi.y, .int .i64 (cubeB (2 ^ d.toNat)).hi.z]) ∧ Ext w w' := by
  have hsh := shl_run d hd
  generalize (2 : Int) ^ d.toNat = S at hsh
  simp only [cubeB]
  clear hd
  go_enter Tryd.func65, Tryd.ntmps65
  go_wp2_with fail
  ((refine (refCube_any _ _).mono ?_); rintro e wx ⟨rfl, xx⟩; have xz := xx.size; (try simp only [World.size_alloc_] at xz))
  have B0 := (Arr.new w 28 [.int .i64 0, .int .i64 0, .int .i64 0, .int .i64 0, .int .i64 0, .int .i64 0]).ext xx
  go_wp2_with (first | (refine wpList_store_blk 28 (.tmp 2) (.tmp 5) rfl rfl B0 [.int .i64 0, .int .i64 0, .int .i64 0, .int .i64 S, .int .i64 S, .int .i64 S] rfl rfl (by kernel_rfl) rfl rfl ?_))
  have B1 := B0.setRow [.int .i64 0, .int .i64 0, .int .i64 0, .int .i64 S, .int .i64 S, .int .i64 S]
  (try simp only [Exit.inBlock, Exit.then])
  refine bodyPost_ret (v := .agg #[.int .i64 0, .int .i64 0, .int .i64 0, .int .i64 S, .int .i64 S, .int .i64 S]) ?_ rfl ⟨rfl, (by repeat (first | with_reducible exact Ext.refl _ | with_reducible assumption | with_reducible refine Ext.alloc ?_ _ | with_reducible refine Ext.drew ?_ | (with_reducible refine Ext.setCell ?_ ?_ _; rotate_left; focus (first | (simp; done) | (simp; omega) | omega)) | (with_reducible refine Ext.setRow ?_ ?_ _; rotate_left; focus (first | (simp; done) | (simp; omega) | omega)) | with_reducible refine Ext.trans ?_ (by with_reducible assumption)))⟩
  exact results_cell_row Tryd.results65 _ _ _ _ _ _ _ rfl B1 Tryd.underlying28 rfl (by kernel_rfl)
end Go.Proofs.YtjceebpafnnffaaDoor
