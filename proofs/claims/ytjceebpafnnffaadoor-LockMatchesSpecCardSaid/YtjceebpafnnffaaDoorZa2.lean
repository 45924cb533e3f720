/- Contracts of the layer of points, on: Intersect, Add, Scale, Sub; and the reference's. · A part of a block of one's own, loaded at once. · Contracts of the layer of locks: compare, lives, within, meet; the reference's near, before, meet. · A region that draws its order: quiet operations, a new variable made somewhere among them, and its store at the end. · Contract of the reference's Intersect. · An owned row that takes an append: afterwards it lies in the block where it lay, or in a new one. And a slice beside it stays. · Slices of rows of k cells, whatever each cell holds; function values with bound arguments. · Contract of slices.IndexFunc and ContainsFunc at rows: Lk. · Contracts of the layer of stamps: parts, Valid; the reference's Valid. · Contracts of the layer of edits, without encodings: within, uses, Formed, sizes, Check. -/
import Derived.Deep.MidRow
import Derived.Deep.DeepCutAuto
import Derived.Deep.DeepAppendRoom
import Derived.Test.YtjceebpafnnffaaDoorZa1
namespace Go.Proofs.YtjceebpafnnffaaDoor
open Go Go.RowKit

def zeroPt : Pt := ⟨0, 0, 0⟩
def zeroBx : Bx := ⟨⟨0, 0, 0⟩, ⟨0, 0, 0⟩⟩
def meetB (a b : Bx) : Bx := ⟨⟨max a.lo.x b.lo.x, max a.lo.y b.lo.y, max a.lo.z b.lo.z⟩, ⟨min a.hi.x b.hi.x, min a.hi.y b.hi.y, min a.hi.z b.hi.z⟩⟩
def interB (a b : Bx) : Bx := if emptyB (meetB a b) then zeroBx else meetB a b

set_option maxHeartbeats 1000000 in
theorem Intersect_any (a b : Bx) (w : World) :
    Calls Tryd.prog 61 #[.agg #[.int .i64 a.lo.x, .int .i64 a.lo.y, .int .i64 a.lo.z, .int .i64 a.hi.x, .int .i64 a.hi.y, .int .i64 a.hi.z], .agg #[.int .i64 b.lo.x, .int .i64 b.lo.y, .int .i64 b.lo.z, .int .i64 b.hi.x, .int .i64 b.hi.y, .int .i64 b.hi.z]] w fun e w' => e = .returned (.agg #[.int .i64 (interB a b).lo.x, .int .i64 (interB a b).lo.y, .int .i64 (interB a b).lo.z, .int .i64 (interB a b).hi.x, .int .i64 (interB a b).hi.y, .int .i64 (interB a b).hi.z]) ∧ Ext w w' := by
  have hc := fun w' : World => Empty_any (meetB a b) w'
  unfold interB
  cases hq : emptyB (meetB a b)
  · rw [hq] at hc
    have HC := Lib.hid hc
    clear hc hq
    simp only [Bool.false_eq_true, if_false]
    go_enter Tryd.func61, Tryd.ntmps61
    go_wp2_with (first | (go_at_call 76; refine (join_any a b _ _ max min two_greater two_lesser _).mono ?_; rintro e wx ⟨rfl, xx⟩; obtain ⟨xc, xf, xl, xe, xn, xm⟩ := xx.look; have xz := xx.size; (try simp only [World.size_alloc_] at xz); (try (have qh := xx.one (b := w.heap.size) (by (try simp only [World.size_alloc_]); omega); obtain ⟨qc, qf, ql, qe, qn, qm⟩ := qh)); (try (have qh := xx.one (b := w.heap.size + 1) (by (try simp only [World.size_alloc_]); omega); obtain ⟨qc, qf, ql, qe, qn, qm⟩ := qh)); (try (have qh := xx.one (b := w.heap.size + 1 + 1) (by (try simp only [World.size_alloc_]); omega); obtain ⟨qc, qf, ql, qe, qn, qm⟩ := qh)); (try (have qh := xx.one (b := w.heap.size + 1 + 1 + 1) (by (try simp only [World.size_alloc_]); omega); obtain ⟨qc, qf, ql, qe, qn, qm⟩ := qh))) | (go_at_call 60; refine (HC.out _).mono ?_; rintro e wx ⟨rfl, xx⟩; obtain ⟨xc, xf, xl, xe, xn, xm⟩ := xx.look; have xz := xx.size; (try simp only [World.size_alloc_] at xz); (try (have qh := xx.one (b := w.heap.size) (by (try simp only [World.size_alloc_]); omega); obtain ⟨qc, qf, ql, qe, qn, qm⟩ := qh)); (try (have qh := xx.one (b := w.heap.size + 1) (by (try simp only [World.size_alloc_]); omega); obtain ⟨qc, qf, ql, qe, qn, qm⟩ := qh)); (try (have qh := xx.one (b := w.heap.size + 1 + 1) (by (try simp only [World.size_alloc_]); omega); obtain ⟨qc, qf, ql, qe, qn, qm⟩ := qh)); (try (have qh := xx.one (b := w.heap.size + 1 + 1 + 1) (by (try simp only [World.size_alloc_]); omega); obtain ⟨qc, qf, ql, qe, qn, qm⟩ := qh))))
    refine bodyPost_ret (v := .agg #[.int .i64 (meetB a b).lo.x, .int .i64 (meetB a b).lo.y, .int .i64 (meetB a b).lo.z, .int .i64 (meetB a b).hi.x, .int .i64 (meetB a b).hi.y, .int .i64 (meetB a b).hi.z]) ?_ rfl ?_
    · simp (maxDischargeDepth := 9) only [results, Tryd.results61]
      first
        | (go_simp; done)
        | (go_simp; simp [meetB]; done)
        | (simp (maxDischargeDepth := 9) [go_sem, *]; done)
        | (simp (maxDischargeDepth := 9) [go_sem, *]; simp [meetB])
    · exact ⟨rfl, (by repeat (first | with_reducible exact Ext.refl _ | with_reducible assumption | with_reducible refine Ext.alloc ?_ _ | with_reducible refine Ext.drew ?_ | (with_reducible refine Ext.setCell ?_ ?_ _; rotate_left; focus (first | (simp; done) | (simp; omega) | omega)) | (with_reducible refine Ext.setRow ?_ ?_ _; rotate_left; focus (first | (simp; done) | (simp; omega) | omega)) | with_reducible refine Ext.trans ?_ (by with_reducible assumption)))⟩
  · rw [hq] at hc
    have HC := Lib.hid hc
    clear hc hq
    simp only [if_true]
    go_enter Tryd.func61, Tryd.ntmps61
    go_wp2_with (first | (go_at_call 76; refine (join_any a b _ _ max min two_greater two_lesser _).mono ?_; rintro e wx ⟨rfl, xx⟩; obtain ⟨xc, xf, xl, xe, xn, xm⟩ := xx.look; have xz := xx.size; (try simp only [World.size_alloc_] at xz); (try (have qh := xx.one (b := w.heap.size) (by (try simp only [World.size_alloc_]); omega); obtain ⟨qc, qf, ql, qe, qn, qm⟩ := qh)); (try (have qh := xx.one (b := w.heap.size + 1) (by (try simp only [World.size_alloc_]); omega); obtain ⟨qc, qf, ql, qe, qn, qm⟩ := qh)); (try (have qh := xx.one (b := w.heap.size + 1 + 1) (by (try simp only [World.size_alloc_]); omega); obtain ⟨qc, qf, ql, qe, qn, qm⟩ := qh)); (try (have qh := xx.one (b := w.heap.size + 1 + 1 + 1) (by (try simp only [World.size_alloc_]); omega); obtain ⟨qc, qf, ql, qe, qn, qm⟩ := qh))) | (go_at_call 60; refine (HC.out _).mono ?_; rintro e wx ⟨rfl, xx⟩; obtain ⟨xc, xf, xl, xe, xn, xm⟩ := xx.look; have xz := xx.size; (try simp only [World.size_alloc_] at xz); (try (have qh := xx.one (b := w.heap.size) (by (try simp only [World.size_alloc_]); omega); obtain ⟨qc, qf, ql, qe, qn, qm⟩ := qh)); (try (have qh := xx.one (b := w.heap.size + 1) (by (try simp only [World.size_alloc_]); omega); obtain ⟨qc, qf, ql, qe, qn, qm⟩ := qh)); (try (have qh := xx.one (b := w.heap.size + 1 + 1) (by (try simp only [World.size_alloc_]); omega); obtain ⟨qc, qf, ql, qe, qn, qm⟩ := qh)); (try (have qh := xx.one (b := w.heap.size + 1 + 1 + 1) (by (try simp only [World.size_alloc_]); omega); obtain ⟨qc, qf, ql, qe, qn, qm⟩ := qh))))
    refine bodyPost_ret (v := .agg #[.int .i64 zeroBx.lo.x, .int .i64 zeroBx.lo.y, .int .i64 zeroBx.lo.z, .int .i64 zeroBx.hi.x, .int .i64 zeroBx.hi.y, .int .i64 zeroBx.hi.z]) ?_ rfl ?_
    · simp (maxDischargeDepth := 9) only [results, Tryd.results61]
      first
        | (go_simp; done)
        | (go_simp; simp [zeroBx]; done)
        | (simp (maxDischargeDepth := 9) [go_sem, *]; done)
        | (simp (maxDischargeDepth := 9) [go_sem, *]; simp [zeroBx])
    · exact ⟨rfl, (by repeat (first | with_reducible exact Ext.refl _ | with_reducible assumption | with_reducible refine Ext.alloc ?_ _ | with_reducible refine Ext.drew ?_ | (with_reducible refine Ext.setCell ?_ ?_ _; rotate_left; focus (first | (simp; done) | (simp; omega) | omega)) | (with_reducible refine Ext.setRow ?_ ?_ _; rotate_left; focus (first | (simp; done) | (simp; omega) | omega)) | with_reducible refine Ext.trans ?_ (by with_reducible assumption)))⟩

def addP (p q : Pt) : Pt := ⟨wrap64 (p.x + q.x), wrap64 (p.y + q.y), wrap64 (p.z + q.z)⟩
def subP (p q : Pt) : Pt := ⟨wrap64 (p.x - q.x), wrap64 (p.y - q.y), wrap64 (p.z - q.z)⟩
def scaleP (p : Pt) (n : Int) : Pt := ⟨wrap64 (n * p.x), wrap64 (n * p.y), wrap64 (n * p.z)⟩
set_option maxHeartbeats 1000000 in
theorem Add_any (p q : Pt) (w : World) :
    Calls Tryd.prog 85 #[.agg #[.int .i64 p.x, .int .i64 p.y, .int .i64 p.z], .agg #[.int .i64 q.x, .int .i64 q.y, .int .i64 q.z]] w fun e w' => e = .returned (.agg #[.int .i64 (addP p q).x, .int .i64 (addP p q).y, .int .i64 (addP p q).z]) ∧ Ext w w' := by
  go_enter Tryd.func85, Tryd.ntmps85
  go_wp2
  refine bodyPost_ret (v := .agg #[.int .i64 (addP p q).x, .int .i64 (addP p q).y, .int .i64 (addP p q).z]) ?_ rfl ?_
  · simp (maxDischargeDepth := 9) only [results, Tryd.results85]
    first
      | (go_simp; done)
      | (go_simp; simp [addP]; done)
      | (simp (maxDischargeDepth := 9) [go_sem, *]; done)
      | (simp (maxDischargeDepth := 9) [go_sem, *]; simp [addP])
  · exact ⟨rfl, (by repeat (first | with_reducible exact Ext.refl _ | with_reducible assumption | with_reducible refine Ext.alloc ?_ _ | with_reducible refine Ext.drew ?_ | (with_reducible refine Ext.setCell ?_ ?_ _; rotate_left; focus (first | (simp; done) | (simp; omega) | omega)) | (with_reducible refine Ext.setRow ?_ ?_ _; rotate_left; focus (first | (simp; done) | (simp; omega) | omega)) | with_reducible refine Ext.trans ?_ (by with_reducible assumption)))⟩
set_option maxHeartbeats 1000000 in
theorem Scale_any (p : Pt) (n : Int) (w : World) :
    Calls Tryd.prog 86 #[.agg #[.int .i64 p.x, .int .i64 p.y, .int .i64 p.z], .int .i64 n] w fun e w' => e = .returned (.agg #[.int .i64 (scaleP p n).x, .int .i64 (scaleP p n).y, .int .i64 (scaleP p n).z]) ∧ Ext w w' := by
  go_enter Tryd.func86, Tryd.ntmps86
  go_wp2
  refine bodyPost_ret (v := .agg #[.int .i64 (scaleP p n).x, .int .i64 (scaleP p n).y, .int .i64 (scaleP p n).z]) ?_ rfl ?_
  · simp (maxDischargeDepth := 9) only [results, Tryd.results86]
    first
      | (go_simp; done)
      | (go_simp; simp [scaleP]; done)
      | (simp (maxDischargeDepth := 9) [go_sem, *]; done)
      | (simp (maxDischargeDepth := 9) [go_sem, *]; simp [scaleP])
  · exact ⟨rfl, (by repeat (first | with_reducible exact Ext.refl _ | with_reducible assumption | with_reducible refine Ext.alloc ?_ _ | with_reducible refine Ext.drew ?_ | (with_reducible refine Ext.setCell ?_ ?_ _; rotate_left; focus (first | (simp; done) | (simp; omega) | omega)) | (with_reducible refine Ext.setRow ?_ ?_ _; rotate_left; focus (first | (simp; done) | (simp; omega) | omega)) | with_reducible refine Ext.trans ?_ (by with_reducible assumption)))⟩
set_option maxHeartbeats 1000000 in
theorem Sub_any (p q : Pt) (w : World) :
    Calls Tryd.prog 72 #[.agg #[.int .i64 p.x, .int .i64 p.y, .int .i64 p.z], .agg #[.int .i64 q.x, .int .i64 q.y, .int .i64 q.z]] w fun e w' => e = .returned (.agg #[.int .i64 (addP p (scaleP q (-1))).x, .int .i64 (addP p (scaleP q (-1))).y, .int .i64 (addP p (scaleP q (-1))).z]) ∧ Ext w w' := by
  have hm := mixed
  have hG := near_old
  go_enter Tryd.func72, Tryd.ntmps72
  go_wp2
  refine wp_region_near_tail 4 (by assumption) (by kernel_rfl) ?_
  simp only [List.take_succ_cons, List.take_zero, List.drop_succ_cons, List.drop_zero]
  repeat (go_big_quiet_step ((first | (go_at_call 86; exact near_call (Scale_any q (-1) _)) | (go_at_call 85; exact near_call (Add_any p (scaleP q (-1)) _)))))
  refine wpQuiet_nil ?_
  intro w1 hw1
  have hy := Ext.of_near hw1
  clear hw1
  obtain ⟨xc, xf, xl, xe, xn, xm⟩ := hy.look
  go_wp2
  refine bodyPost_ret (v := .agg #[.int .i64 (addP p (scaleP q (-1))).x, .int .i64 (addP p (scaleP q (-1))).y, .int .i64 (addP p (scaleP q (-1))).z]) ?_ rfl ?_
  · simp (maxDischargeDepth := 9) only [results, Tryd.results72]
    first
      | (go_simp; done)
      | (go_simp; simp; done)
      | (simp (maxDischargeDepth := 9) [go_sem, *]; done)
      | (simp (maxDischargeDepth := 9) [go_sem, *]; simp)
  · exact ⟨rfl, (by repeat (first | with_reducible exact Ext.refl _ | with_reducible assumption | with_reducible refine Ext.alloc ?_ _ | with_reducible refine Ext.drew ?_ | (with_reducible refine Ext.setCell ?_ ?_ _; rotate_left; focus (first | (simp; done) | (simp; omega) | omega)) | (with_reducible refine Ext.setRow ?_ ?_ _; rotate_left; focus (first | (simp; done) | (simp; omega) | omega)) | with_reducible refine Ext.trans ?_ (by with_reducible assumption)))⟩
set_option maxHeartbeats 1000000 in
theorem refSub_any (p q : Pt) (w : World) :
    Calls Tryd.prog 93 #[.agg #[.int .i64 p.x, .int .i64 p.y, .int .i64 p.z], .agg #[.int .i64 q.x, .int .i64 q.y, .int .i64 q.z]] w fun e w' => e = .returned (.agg #[.int .i64 (subP p q).x, .int .i64 (subP p q).y, .int .i64 (subP p q).z]) ∧ Ext w w' := by
  go_enter Tryd.func93, Tryd.ntmps93
  go_wp2
  refine bodyPost_ret (v := .agg #[.int .i64 (subP p q).x, .int .i64 (subP p q).y, .int .i64 (subP p q).z]) ?_ rfl ?_
  · simp (maxDischargeDepth := 9) only [results, Tryd.results93]
    first
      | (go_simp; done)
      | (go_simp; simp [subP]; done)
      | (simp (maxDischargeDepth := 9) [go_sem, *]; done)
      | (simp (maxDischargeDepth := 9) [go_sem, *]; simp [subP])
  · exact ⟨rfl, (by repeat (first | with_reducible exact Ext.refl _ | with_reducible assumption | with_reducible refine Ext.alloc ?_ _ | with_reducible refine Ext.drew ?_ | (with_reducible refine Ext.setCell ?_ ?_ _; rotate_left; focus (first | (simp; done) | (simp; omega) | omega)) | (with_reducible refine Ext.setRow ?_ ?_ _; rotate_left; focus (first | (simp; done) | (simp; omega) | omega)) | with_reducible refine Ext.trans ?_ (by with_reducible assumption)))⟩
set_option maxHeartbeats 1000000 in
theorem refCube_any (n : Int) (w : World) :
    Calls Tryd.prog 30 #[.int .i64 n] w fun e w' => e = .returned (.agg #[.int .i64 0, .int .i64 0, .int .i64 0, .int .i64 n, .int .i64 n, .int .i64 n]) ∧ Ext w w' := by
  go_enter Tryd.func30, Tryd.ntmps30
  go_wp2
  refine bodyPost_ret (v := .agg #[.int .i64 0, .int .i64 0, .int .i64 0, .int .i64 n, .int .i64 n, .int .i64 n]) ?_ rfl ?_
  · simp (maxDischargeDepth := 9) only [results, Tryd.results30]
    first
      | (go_simp; done)
      | (go_simp; simp; done)
      | (simp (maxDischargeDepth := 9) [go_sem, *]; done)
      | (simp (maxDischargeDepth := 9) [go_sem, *]; simp)
  · exact ⟨rfl, (by repeat (first | with_reducible exact Ext.refl _ | with_reducible assumption | with_reducible refine Ext.alloc ?_ _ | with_reducible refine Ext.drew ?_ | (with_reducible refine Ext.setCell ?_ ?_ _; rotate_left; focus (first | (simp; done) | (simp; omega) | omega)) | (with_reducible refine Ext.setRow ?_ ?_ _; rotate_left; focus (first | (simp; done) | (simp; omega) | omega)) | with_reducible refine Ext.trans ?_ (by with_reducible assumption)))⟩
set_option maxHeartbeats 1000000 in
theorem reflist_any (p : Pt) (w : World) :
    Calls Tryd.prog 82 #[.agg #[.int .i64 p.x, .int .i64 p.y, .int .i64 p.z]] w fun e w' => e = .returned (.agg #[.int .i64 p.x, .int .i64 p.y, .int .i64 p.z]) ∧ Ext w w' := by
  go_enter Tryd.func82, Tryd.ntmps82
  go_wp2
  refine bodyPost_ret (v := .agg #[.int .i64 p.x, .int .i64 p.y, .int .i64 p.z]) ?_ rfl ?_
  · simp (maxDischargeDepth := 9) only [results, Tryd.results82]
    first
      | (go_simp; done)
      | (go_simp; simp; done)
      | (simp (maxDischargeDepth := 9) [go_sem, *]; done)
      | (simp (maxDischargeDepth := 9) [go_sem, *]; simp)
  · exact ⟨rfl, (by repeat (first | with_reducible exact Ext.refl _ | with_reducible assumption | with_reducible refine Ext.alloc ?_ _ | with_reducible refine Ext.drew ?_ | (with_reducible refine Ext.setCell ?_ ?_ _; rotate_left; focus (first | (simp; done) | (simp; omega) | omega)) | (with_reducible refine Ext.setRow ?_ ?_ _; rotate_left; focus (first | (simp; done) | (simp; omega) | omega)) | with_reducible refine Ext.trans ?_ (by with_reducible assumption)))⟩
set_option maxHeartbeats 1000000 in
theorem refof_any (p : Pt) (w : World) :
    Calls Tryd.prog 83 #[.agg #[.int .i64 p.x, .int .i64 p.y, .int .i64 p.z]] w fun e w' => e = .returned (.agg #[.int .i64 p.x, .int .i64 p.y, .int .i64 p.z]) ∧ Ext w w' := by
  go_enter Tryd.func83, Tryd.ntmps83
  go_wp2
  refine bodyPost_ret (v := .agg #[.int .i64 p.x, .int .i64 p.y, .int .i64 p.z]) ?_ rfl ?_
  · simp (maxDischargeDepth := 9) only [results, Tryd.results83]
    first
      | (go_simp; done)
      | (go_simp; simp; done)
      | (simp (maxDischargeDepth := 9) [go_sem, *]; done)
      | (simp (maxDischargeDepth := 9) [go_sem, *]; simp)
  · exact ⟨rfl, (by repeat (first | with_reducible exact Ext.refl _ | with_reducible assumption | with_reducible refine Ext.alloc ?_ _ | with_reducible refine Ext.drew ?_ | (with_reducible refine Ext.setCell ?_ ?_ _; rotate_left; focus (first | (simp; done) | (simp; omega) | omega)) | (with_reducible refine Ext.setRow ?_ ?_ _; rotate_left; focus (first | (simp; done) | (simp; omega) | omega)) | with_reducible refine Ext.trans ?_ (by with_reducible assumption)))⟩
def emptyR (b : Bx) : Bool := decide (b.lo.x ≥ b.hi.x) || (decide (b.lo.y ≥ b.hi.y) || decide (b.lo.z ≥ b.hi.z))
theorem emptyR_eq (b : Bx) : emptyR b = emptyB b := by
  rw [Bool.eq_iff_iff]; simp [emptyR, emptyB, inP]
set_option maxHeartbeats 1000000 in
theorem refEmpty_any (b : Bx) (w : World) :
    Calls Tryd.prog 56 #[.agg #[.int .i64 b.lo.x, .int .i64 b.lo.y, .int .i64 b.lo.z, .int .i64 b.hi.x, .int .i64 b.hi.y, .int .i64 b.hi.z]] w fun e w' => e = .returned (.bool (emptyB b)) ∧ Ext w w' := by
  rw [← emptyR_eq]
  go_enter Tryd.func56, Tryd.ntmps56
  go_wp2
  all_goals
    go_ret
    refine ⟨ret_bool ?_, (by repeat (first | with_reducible exact Ext.refl _ | with_reducible assumption | with_reducible refine Ext.alloc ?_ _ | with_reducible refine Ext.drew ?_ | (with_reducible refine Ext.setCell ?_ ?_ _; rotate_left; focus (first | (simp; done) | (simp; omega) | omega)) | (with_reducible refine Ext.setRow ?_ ?_ _; rotate_left; focus (first | (simp; done) | (simp; omega) | omega)) | with_reducible refine Ext.trans ?_ (by with_reducible assumption)))⟩
    rw [Bool.eq_iff_iff]
    simp [emptyR]
    try omega
set_option maxHeartbeats 1000000 in
theorem refIn_any (p : Pt) (b : Bx) (w : World) :
    Calls Tryd.prog 27 #[.agg #[.int .i64 p.x, .int .i64 p.y, .int .i64 p.z], .agg #[.int .i64 b.lo.x, .int .i64 b.lo.y, .int .i64 b.lo.z, .int .i64 b.hi.x, .int .i64 b.hi.y, .int .i64 b.hi.z]] w fun e w' => e = .returned (.bool (inP p b)) ∧ Ext w w' := by
  go_enter Tryd.func27, Tryd.ntmps27
  go_wp2
  all_goals
    go_ret
    refine ⟨ret_bool ?_, (by repeat (first | with_reducible exact Ext.refl _ | with_reducible assumption | with_reducible refine Ext.alloc ?_ _ | with_reducible refine Ext.drew ?_ | (with_reducible refine Ext.setCell ?_ ?_ _; rotate_left; focus (first | (simp; done) | (simp; omega) | omega)) | (with_reducible refine Ext.setRow ?_ ?_ _; rotate_left; focus (first | (simp; done) | (simp; omega) | omega)) | with_reducible refine Ext.trans ?_ (by with_reducible assumption)))⟩
    rw [Bool.eq_iff_iff]
    simp [inP]
    try omega
def sizeP (b : Bx) : Pt := if emptyB b then zeroPt else subP b.hi b.lo
def volP (b : Bx) : Int := wrap64 (wrap64 ((sizeP b).x * (sizeP b).y) * (sizeP b).z)
set_option maxHeartbeats 1000000 in
theorem refSize_any (b : Bx) (w : World) :
    Calls Tryd.prog 81 #[.agg #[.int .i64 b.lo.x, .int .i64 b.lo.y, .int .i64 b.lo.z, .int .i64 b.hi.x, .int .i64 b.hi.y, .int .i64 b.hi.z]] w fun e w' => e = .returned (.agg #[.int .i64 (sizeP b).x, .int .i64 (sizeP b).y, .int .i64 (sizeP b).z]) ∧ Ext w w' := by
  have hc := fun w' : World => refEmpty_any b w'
  unfold sizeP
  cases hq : emptyB b
  · rw [hq] at hc
    have HC := Lib.hid hc
    clear hc hq
    simp only [Bool.false_eq_true, if_false]
    go_enter Tryd.func81, Tryd.ntmps81
    go_wp2_with (first | (go_at_call 56; refine (HC.out _).mono ?_; rintro e wx ⟨rfl, xx⟩; obtain ⟨xc, xf, xl, xe, xn, xm⟩ := xx.look; have xz := xx.size; (try simp only [World.size_alloc_] at xz); (try (have qh := xx.one (b := w.heap.size) (by (try simp only [World.size_alloc_]); omega); obtain ⟨qc, qf, ql, qe, qn, qm⟩ := qh)); (try (have qh := xx.one (b := w.heap.size + 1) (by (try simp only [World.size_alloc_]); omega); obtain ⟨qc, qf, ql, qe, qn, qm⟩ := qh)); (try (have qh := xx.one (b := w.heap.size + 1 + 1) (by (try simp only [World.size_alloc_]); omega); obtain ⟨qc, qf, ql, qe, qn, qm⟩ := qh)); (try (have qh := xx.one (b := w.heap.size + 1 + 1 + 1) (by (try simp only [World.size_alloc_]); omega); obtain ⟨qc, qf, ql, qe, qn, qm⟩ := qh))) | (go_at_call 93; refine (refSub_any b.hi b.lo _).mono ?_; rintro e wx ⟨rfl, xx⟩; obtain ⟨xc, xf, xl, xe, xn, xm⟩ := xx.look; have xz := xx.size; (try simp only [World.size_alloc_, World.size_setCell_] at xz); (try (have qh := xx.one (b := w.heap.size) (by (try simp only [World.size_alloc_, World.size_setCell_]); omega); obtain ⟨qc, qf, ql, qe, qn, qm⟩ := qh)); (try (have qh := xx.one (b := w.heap.size + 1) (by (try simp only [World.size_alloc_, World.size_setCell_]); omega); obtain ⟨qc, qf, ql, qe, qn, qm⟩ := qh)); (try (have qh := xx.one (b := w.heap.size + 1 + 1) (by (try simp only [World.size_alloc_, World.size_setCell_]); omega); obtain ⟨qc, qf, ql, qe, qn, qm⟩ := qh)); (try (have qh := xx.one (b := w.heap.size + 1 + 1 + 1) (by (try simp only [World.size_alloc_, World.size_setCell_]); omega); obtain ⟨qc, qf, ql, qe, qn, qm⟩ := qh))))
    refine bodyPost_ret (v := .agg #[.int .i64 (subP b.hi b.lo).x, .int .i64 (subP b.hi b.lo).y, .int .i64 (subP b.hi b.lo).z]) ?_ rfl ?_
    · simp (maxDischargeDepth := 9) only [results, Tryd.results81]
      first
        | (go_simp; done)
        | (go_simp; simp; done)
        | (simp (maxDischargeDepth := 9) [go_sem, *]; done)
        | (simp (maxDischargeDepth := 9) [go_sem, *]; simp)
    · exact ⟨rfl, (by repeat (first | with_reducible exact Ext.refl _ | with_reducible assumption | with_reducible refine Ext.alloc ?_ _ | with_reducible refine Ext.drew ?_ | (with_reducible refine Ext.setCell ?_ ?_ _; rotate_left; focus (first | (simp; done) | (simp; omega) | omega)) | (with_reducible refine Ext.setRow ?_ ?_ _; rotate_left; focus (first | (simp; done) | (simp; omega) | omega)) | with_reducible refine Ext.trans ?_ (by with_reducible assumption)))⟩
  · rw [hq] at hc
    have HC := Lib.hid hc
    clear hc hq
    simp only [if_true]
    go_enter Tryd.func81, Tryd.ntmps81
    go_wp2_with (first | (go_at_call 56; refine (HC.out _).mono ?_; rintro e wx ⟨rfl, xx⟩; obtain ⟨xc, xf, xl, xe, xn, xm⟩ := xx.look; have xz := xx.size; (try simp only [World.size_alloc_] at xz); (try (have qh := xx.one (b := w.heap.size) (by (try simp only [World.size_alloc_]); omega); obtain ⟨qc, qf, ql, qe, qn, qm⟩ := qh)); (try (have qh := xx.one (b := w.heap.size + 1) (by (try simp only [World.size_alloc_]); omega); obtain ⟨qc, qf, ql, qe, qn, qm⟩ := qh)); (try (have qh := xx.one (b := w.heap.size + 1 + 1) (by (try simp only [World.size_alloc_]); omega); obtain ⟨qc, qf, ql, qe, qn, qm⟩ := qh)); (try (have qh := xx.one (b := w.heap.size + 1 + 1 + 1) (by (try simp only [World.size_alloc_]); omega); obtain ⟨qc, qf, ql, qe, qn, qm⟩ := qh))))
    refine bodyPost_ret (v := .agg #[.int .i64 zeroPt.x, .int .i64 zeroPt.y, .int .i64 zeroPt.z]) ?_ rfl ?_
    · simp (maxDischargeDepth := 9) only [results, Tryd.results81]
      first
        | (go_simp; done)
        | (go_simp; simp [zeroPt]; done)
        | (simp (maxDischargeDepth := 9) [go_sem, *]; done)
        | (simp (maxDischargeDepth := 9) [go_sem, *]; simp [zeroPt])
    · exact ⟨rfl, (by repeat (first | with_reducible exact Ext.refl _ | with_reducible assumption | with_reducible refine Ext.alloc ?_ _ | with_reducible refine Ext.drew ?_ | (with_reducible refine Ext.setCell ?_ ?_ _; rotate_left; focus (first | (simp; done) | (simp; omega) | omega)) | (with_reducible refine Ext.setRow ?_ ?_ _; rotate_left; focus (first | (simp; done) | (simp; omega) | omega)) | with_reducible refine Ext.trans ?_ (by with_reducible assumption)))⟩
set_option maxHeartbeats 1000000 in
theorem refVolume_any (b : Bx) (w : World) :
    Calls Tryd.prog 66 #[.agg #[.int .i64 b.lo.x, .int .i64 b.lo.y, .int .i64 b.lo.z, .int .i64 b.hi.x, .int .i64 b.hi.y, .int .i64 b.hi.z]] w fun e w' => e = .returned (.int .i64 (volP b)) ∧ Ext w w' := by
  go_enter Tryd.func66, Tryd.ntmps66
  go_wp2_with (first | (go_at_call 81; refine (refSize_any b _).mono ?_; rintro e wx ⟨rfl, xx⟩; obtain ⟨xc, xf, xl, xe, xn, xm⟩ := xx.look; have xz := xx.size; (try simp only [World.size_alloc_] at xz); (try (have qh := xx.one (b := w.heap.size) (by (try simp only [World.size_alloc_]); omega); obtain ⟨qc, qf, ql, qe, qn, qm⟩ := qh)); (try (have qh := xx.one (b := w.heap.size + 1) (by (try simp only [World.size_alloc_]); omega); obtain ⟨qc, qf, ql, qe, qn, qm⟩ := qh)); (try (have qh := xx.one (b := w.heap.size + 1 + 1) (by (try simp only [World.size_alloc_]); omega); obtain ⟨qc, qf, ql, qe, qn, qm⟩ := qh)); (try (have qh := xx.one (b := w.heap.size + 1 + 1 + 1) (by (try simp only [World.size_alloc_]); omega); obtain ⟨qc, qf, ql, qe, qn, qm⟩ := qh))))
  go_ret
  exact ⟨rfl, (by repeat (first | with_reducible exact Ext.refl _ | with_reducible assumption | with_reducible refine Ext.alloc ?_ _ | with_reducible refine Ext.drew ?_ | (with_reducible refine Ext.setCell ?_ ?_ _; rotate_left; focus (first | (simp; done) | (simp; omega) | omega)) | (with_reducible refine Ext.setRow ?_ ?_ _; rotate_left; focus (first | (simp; done) | (simp; omega) | omega)) | with_reducible refine Ext.trans ?_ (by with_reducible assumption)))⟩
end Go.Proofs.YtjceebpafnnffaaDoor

namespace Go.Proofs.YtjceebpafnnffaaDoor
open Go Go.RowKit

theorem wpList_load_part {P : Program} {ops : Array Oper} {rest : List Oper} {o : Oper} {a : Act} {w : World} {Q : Exit → Act → World → Prop} (ty : TypeId) (x : Operand) (ho : o.op = .load ty x) (hw : Region.wanted o (yielded ops a.tmps) = true)
    {b : Nat} {t : TypeId} {vs : List Value} (hB : Arr w b t vs) (off : Nat) (cs : List Value) (hcs : (vs.drop off).take cs.length = cs) (hx : a.eval x = .pointer (some ⟨b, off, none⟩)) (d : TypeDesc) (hu : P.underlying ty = some d)
    (hd : d.isRow = true) (hi : (P.info? ty).map (·.size) = some cs.length) (h : wpList P ops Q rest (a.put o.dst (.agg cs.toArray)) w) : wpList P ops Q (o :: rest) a w := by
  refine wpList_step fun K hK => ?_
  rw [if_pos hw]
  refine wp_load_mid ty x ho b off hx cs d (fun j v hv => ?_) hu hd hi (hK _ _ h)
  rw [hB.cell, ← List.getElem?_drop]
  have h1 : ((vs.drop off).take cs.length)[j]? = some v := by rw [hcs]; exact hv
  rw [List.getElem?_take] at h1
  split at h1
  · exact h1
  · cases h1
end Go.Proofs.YtjceebpafnnffaaDoor

namespace Go.Proofs.YtjceebpafnnffaaDoor
open Go Go.RowKit

structure Lk where
  site : Int
  seq : Int
  til : Int
  box : Bx
  deriving DecidableEq
def Lk.cells (x : Lk) : List Value := [.int .i64 x.site, .int .i64 x.seq, .int .i64 x.til, .int .i64 x.box.lo.x, .int .i64 x.box.lo.y, .int .i64 x.box.lo.z, .int .i64 x.box.hi.x, .int .i64 x.box.hi.y, .int .i64 x.box.hi.z]
def cmpL (x y : Lk) : Int := orI (cmpI x.site y.site) (cmpI x.seq y.seq)

set_option maxHeartbeats 1000000 in
theorem compareL_any (x y : Lk) (w : World) :
    Calls Tryd.prog 33 #[.agg #[.int .i64 x.site, .int .i64 x.seq, .int .i64 x.til, .int .i64 x.box.lo.x, .int .i64 x.box.lo.y, .int .i64 x.box.lo.z, .int .i64 x.box.hi.x, .int .i64 x.box.hi.y, .int .i64 x.box.hi.z], .agg #[.int .i64 y.site, .int .i64 y.seq, .int .i64 y.til, .int .i64 y.box.lo.x, .int .i64 y.box.lo.y, .int .i64 y.box.lo.z, .int .i64 y.box.hi.x, .int .i64 y.box.hi.y, .int .i64 y.box.hi.z]] w fun e w' => e = .returned (.int .i64 (cmpL x y)) ∧ Ext w w' := by
  have hm := mixed
  go_enter Tryd.func33, Tryd.ntmps33
  go_wp2
  have hG := near_old
  refine wp_region_near_tail 10 (by assumption) (by kernel_rfl) ?_
  simp only [List.take_succ_cons, List.take_zero, List.drop_succ_cons, List.drop_zero]
  repeat (go_big_quiet_step ((go_at_call 59; exact near_same (Compare_any _ _ _))))
  refine wpQuiet_nil ?_
  intro w1 hw1
  have hy := Ext.of_near hw1
  clear hw1
  go_wp2_with (go_at_call 58; refine (Or_two (cmpI x.site y.site) (cmpI x.seq y.seq) _ _ (by simp [go_sem]) (by simp [go_sem])).mono ?_; rintro e w' ⟨rfl, rfl⟩)
  go_ret
  exact ⟨rfl, (((Ext.refl w).alloc _).alloc _).trans (hy.alloc _)⟩
set_option maxHeartbeats 1000000 in
theorem lives_any (now : Int) (x : Lk) (w : World) :
    Calls Tryd.prog 49 #[.int .i64 now, .agg #[.int .i64 x.site, .int .i64 x.seq, .int .i64 x.til, .int .i64 x.box.lo.x, .int .i64 x.box.lo.y, .int .i64 x.box.lo.z, .int .i64 x.box.hi.x, .int .i64 x.box.hi.y, .int .i64 x.box.hi.z]] w fun e w' => e = .returned (.bool (decide (now ≤ x.til))) ∧ Ext w w' := by
  go_enter Tryd.func49, Tryd.ntmps49
  go_wp2
  go_ret
  exact ⟨rfl, (by repeat (first | with_reducible exact Ext.refl _ | with_reducible assumption | with_reducible refine Ext.alloc ?_ _ | with_reducible refine Ext.drew ?_ | (with_reducible refine Ext.setCell ?_ ?_ _; rotate_left; focus (first | (simp; done) | (simp; omega) | omega)) | (with_reducible refine Ext.setRow ?_ ?_ _; rotate_left; focus (first | (simp; done) | (simp; omega) | omega)) | with_reducible refine Ext.trans ?_ (by with_reducible assumption)))⟩
set_option maxHeartbeats 1000000 in
theorem withinL_any (n lo hi : Int) (w : World) :
    Calls Tryd.prog 68 #[.int .i64 n, .int .i64 lo, .int .i64 hi] w fun e w' => e = .returned (.bool (decide (lo ≤ n ∧ n ≤ hi))) ∧ Ext w w' := by
  go_enter Tryd.func68, Tryd.ntmps68
  go_wp2
  all_goals
    go_ret
    refine ⟨ret_bool ?_, (by repeat (first | with_reducible exact Ext.refl _ | with_reducible assumption | with_reducible refine Ext.alloc ?_ _ | with_reducible refine Ext.drew ?_ | (with_reducible refine Ext.setCell ?_ ?_ _; rotate_left; focus (first | (simp; done) | (simp; omega) | omega)) | (with_reducible refine Ext.setRow ?_ ?_ _; rotate_left; focus (first | (simp; done) | (simp; omega) | omega)) | with_reducible refine Ext.trans ?_ (by with_reducible assumption)))⟩
    rw [Bool.eq_iff_iff]
    simp
    try omega
def meetL (a b : Bx) : Bool := !emptyB (interB a b)
set_option maxHeartbeats 1000000 in
theorem meetL_any (a b : Bx) (w : World) :
    Calls Tryd.prog 36 #[.agg #[.int .i64 a.lo.x, .int .i64 a.lo.y, .int .i64 a.lo.z, .int .i64 a.hi.x, .int .i64 a.hi.y, .int .i64 a.hi.z], .agg #[.int .i64 b.lo.x, .int .i64 b.lo.y, .int .i64 b.lo.z, .int .i64 b.hi.x, .int .i64 b.hi.y, .int .i64 b.hi.z]] w fun e w' => e = .returned (.bool (meetL a b)) ∧ Ext w w' := by
  have B0 := Arr.new (w.alloc (.cells #[.int .i64 a.lo.x, .int .i64 a.lo.y, .int .i64 a.lo.z, .int .i64 a.hi.x, .int .i64 a.hi.y, .int .i64 a.hi.z] 28)) 28 [.int .i64 b.lo.x, .int .i64 b.lo.y, .int .i64 b.lo.z, .int .i64 b.hi.x, .int .i64 b.hi.y, .int .i64 b.hi.z]
  have B1 := (Arr.new w 28 [.int .i64 a.lo.x, .int .i64 a.lo.y, .int .i64 a.lo.z, .int .i64 a.hi.x, .int .i64 a.hi.y, .int .i64 a.hi.z]).alloc (.cells #[.int .i64 b.lo.x, .int .i64 b.lo.y, .int .i64 b.lo.z, .int .i64 b.hi.x, .int .i64 b.hi.y, .int .i64 b.hi.z] 28)
  simp only [World.size_alloc_] at B0
  have HB0 := Lib.hid B0; have HB1 := Lib.hid B1
  clear B0 B1
  go_enter Tryd.func36, Tryd.ntmps36
  go_wp2_with (first | (refine wpList_load_blk 28 (.tmp 2) rfl rfl HB1.out rfl _ Tryd.underlying28 rfl (by kernel_rfl) ?_) | (refine wpList_load_blk 28 (.tmp 2) rfl rfl (HB1.out.alloc _) rfl _ Tryd.underlying28 rfl (by kernel_rfl) ?_) | (refine wpList_load_blk 28 (.tmp 2) rfl rfl ((HB1.out.alloc _).alloc _) rfl _ Tryd.underlying28 rfl (by kernel_rfl) ?_) | (refine wpList_load_blk 28 (.tmp 3) rfl rfl HB0.out rfl _ Tryd.underlying28 rfl (by kernel_rfl) ?_) | (refine wpList_load_blk 28 (.tmp 3) rfl rfl (HB0.out.alloc _) rfl _ Tryd.underlying28 rfl (by kernel_rfl) ?_) | (refine wpList_load_blk 28 (.tmp 3) rfl rfl ((HB0.out.alloc _).alloc _) rfl _ Tryd.underlying28 rfl (by kernel_rfl) ?_) | (go_at_call 61; refine (Intersect_any a b _).mono ?_; rintro e wx ⟨rfl, xx⟩; obtain ⟨xc, xf, xl, xe, xn, xm⟩ := xx.look; have xz := xx.size; (try simp only [World.size_alloc_] at xz); (try (have qh := xx.one (b := w.heap.size) (by (try simp only [World.size_alloc_]); omega); obtain ⟨qc, qf, ql, qe, qn, qm⟩ := qh)); (try (have qh := xx.one (b := w.heap.size + 1) (by (try simp only [World.size_alloc_]); omega); obtain ⟨qc, qf, ql, qe, qn, qm⟩ := qh)); (try (have qh := xx.one (b := w.heap.size + 1 + 1) (by (try simp only [World.size_alloc_]); omega); obtain ⟨qc, qf, ql, qe, qn, qm⟩ := qh)); (try (have qh := xx.one (b := w.heap.size + 1 + 1 + 1) (by (try simp only [World.size_alloc_]); omega); obtain ⟨qc, qf, ql, qe, qn, qm⟩ := qh))) | (go_at_call 60; refine (Empty_any (interB a b) _).mono ?_; rintro e wx ⟨rfl, xx⟩; obtain ⟨xc, xf, xl, xe, xn, xm⟩ := xx.look; have xz := xx.size; (try simp only [World.size_alloc_, World.size_setCell_] at xz); (try (have qh := xx.one (b := w.heap.size) (by (try simp only [World.size_alloc_, World.size_setCell_]); omega); obtain ⟨qc, qf, ql, qe, qn, qm⟩ := qh)); (try (have qh := xx.one (b := w.heap.size + 1) (by (try simp only [World.size_alloc_, World.size_setCell_]); omega); obtain ⟨qc, qf, ql, qe, qn, qm⟩ := qh)); (try (have qh := xx.one (b := w.heap.size + 1 + 1) (by (try simp only [World.size_alloc_, World.size_setCell_]); omega); obtain ⟨qc, qf, ql, qe, qn, qm⟩ := qh)); (try (have qh := xx.one (b := w.heap.size + 1 + 1 + 1) (by (try simp only [World.size_alloc_, World.size_setCell_]); omega); obtain ⟨qc, qf, ql, qe, qn, qm⟩ := qh))))
  go_ret
  exact ⟨ret_bool rfl, (by repeat (first | with_reducible exact Ext.refl _ | with_reducible assumption | with_reducible refine Ext.alloc ?_ _ | with_reducible refine Ext.drew ?_ | (with_reducible refine Ext.setCell ?_ ?_ _; rotate_left; focus (first | (simp; done) | (simp; omega) | omega)) | (with_reducible refine Ext.setRow ?_ ?_ _; rotate_left; focus (first | (simp; done) | (simp; omega) | omega)) | with_reducible refine Ext.trans ?_ (by with_reducible assumption)))⟩
def befL (a b : Lk) : Bool := decide (a.site < b.site) || (decide (a.site = b.site) && decide (a.seq < b.seq))
set_option maxHeartbeats 1000000 in
theorem before_any (a b : Lk) (w : World) :
    Calls Tryd.prog 42 #[.agg #[.int .i64 a.site, .int .i64 a.seq, .int .i64 a.til, .int .i64 a.box.lo.x, .int .i64 a.box.lo.y, .int .i64 a.box.lo.z, .int .i64 a.box.hi.x, .int .i64 a.box.hi.y, .int .i64 a.box.hi.z], .agg #[.int .i64 b.site, .int .i64 b.seq, .int .i64 b.til, .int .i64 b.box.lo.x, .int .i64 b.box.lo.y, .int .i64 b.box.lo.z, .int .i64 b.box.hi.x, .int .i64 b.box.hi.y, .int .i64 b.box.hi.z]] w fun e w' => e = .returned (.bool (befL a b)) ∧ Ext w w' := by
  go_enter Tryd.func42, Tryd.ntmps42
  go_wp2
  all_goals
    go_ret
    refine ⟨ret_bool ?_, (by repeat (first | with_reducible exact Ext.refl _ | with_reducible assumption | with_reducible refine Ext.alloc ?_ _ | with_reducible refine Ext.drew ?_ | (with_reducible refine Ext.setCell ?_ ?_ _; rotate_left; focus (first | (simp; done) | (simp; omega) | omega)) | (with_reducible refine Ext.setRow ?_ ?_ _; rotate_left; focus (first | (simp; done) | (simp; omega) | omega)) | with_reducible refine Ext.trans ?_ (by with_reducible assumption)))⟩
    rw [Bool.eq_iff_iff]
    simp [befL]
    try omega
def nearP (p : Pt) : Bool := decide ((0 ≤ p.x ∧ p.x ≤ 16384) ∧ (0 ≤ p.y ∧ p.y ≤ 16384) ∧ (0 ≤ p.z ∧ p.z ≤ 16384))
set_option maxHeartbeats 2000000 in
theorem near_any (p : Pt) (w : World) :
    Calls Tryd.prog 55 #[.agg #[.int .i64 p.x, .int .i64 p.y, .int .i64 p.z]] w fun e w' => e = .returned (.bool (nearP p)) ∧ Ext w w' := by
  go_enter Tryd.func55, Tryd.ntmps55
  go_wp2
  all_goals
    go_ret
    refine ⟨ret_bool ?_, (by repeat (first | with_reducible exact Ext.refl _ | with_reducible assumption | with_reducible refine Ext.alloc ?_ _ | with_reducible refine Ext.drew ?_ | (with_reducible refine Ext.setCell ?_ ?_ _; rotate_left; focus (first | (simp; done) | (simp; omega) | omega)) | (with_reducible refine Ext.setRow ?_ ?_ _; rotate_left; focus (first | (simp; done) | (simp; omega) | omega)) | with_reducible refine Ext.trans ?_ (by with_reducible assumption)))⟩
    rw [Bool.eq_iff_iff]
    simp [nearP]
    try omega
end Go.Proofs.YtjceebpafnnffaaDoor

namespace Go.Proofs.YtjceebpafnnffaaDoor
open Go Go.RowKit

section
variable {P : Program}
structure BoxR (T : TypeId) (n : Nat) (zs cs : List Value) (W : World) (listed : Array Bool) (g : Nat) (w : World) : Prop where
  ext : Ext W w
  laid : listed.getD n true = true → W.heap.size ≤ g ∧ Arr w g T (if listed.getD (n + 1) true = true then cs else zs)
  st : listed.getD (n + 1) true = true → listed.getD n true = true
def boxV (V : Nat → Value) (n : Nat) (g i : Nat) : Value := if i < n then V i else if i = n then .pointer (some ⟨g, 0, none⟩) else undef

theorem BoxR.keep {T n : Nat} {zs cs : List Value} {W w w' : World} {listed : Array Bool} {g : Nat} (h : BoxR T n zs cs W listed g w) {i : Nat} (hi : i < n) (hx : Ext w w') : BoxR T n zs cs W (listed.setIfInBounds i true) g w' := by
  have h1 : (listed.setIfInBounds i true).getD n true = listed.getD n true := getD_set_ne true (by omega)
  have h2 : (listed.setIfInBounds i true).getD (n + 1) true = listed.getD (n + 1) true := getD_set_ne true (by omega)
  refine ⟨h.ext.trans hx, ?_, ?_⟩
  · rw [h1, h2]
    intro h3
    obtain ⟨h4, h5⟩ := h.laid h3
    exact ⟨h4, h5.ext hx⟩
  · rw [h1, h2]; exact h.st

/-- The law. The list's operation n makes the variable, operation n + 1 (the last) stores slot sv's value into it. -/
theorem wp_region_box {id : Nat} {Q : Exit → Act → World → Prop} {a : Act} {w : World} {l : List Oper} (V : Nat → Value) (n T d sv iv : Nat) (zs cs : List Value) (hm : P.follows .mixedOrders = true) (hs : slotsB l.toArray = true) (hb : backB l.toArray = true)
    (hg : ∀ (i : Nat) (o : Oper), l[i]? = some o → o.guard = none) (hln : l.length = n + 2)
    (halloc : ∃ o, l[n]? = some o ∧ o.op = .alloc T ∧ o.dst = some d) (hstore : ∃ o, l[n + 1]? = some o ∧ o.op = .store T (.tmp d) (.tmp sv) ∧ o.dst = none ∧ (∃ e, e ∈ o.after ∧ e.on = n ∧ Region.binds .any e = true) ∧ (∃ e, e ∈ o.after ∧ e.on = iv ∧ Region.binds .any e = true))
    (hiv : iv < n) (hdv : dstOf l.toArray iv = some sv) (hds : sv < a.tmps.size) (hdd : d < a.tmps.size) (hV : V iv = .agg cs.toArray)
    (hz : ∃ i z, P.info? T = some i ∧ i.zero = some z ∧ z.cells.toList = zs) (hi : (P.info? T).map (·.size) = some cs.length) (hzl : zs.length = cs.length) (hone : cs.all (·.oneCell') = true)
    (hhead : ∀ (listed : Array Bool) (w1 : World) (i : Nat) (o : Oper), l[i]? = some o → i < n → (∀ e, e ∈ o.after → Region.binds .any e = true → listed.getD e.on false = true) → Ext w w1 →
      ∀ (b : Act) (K : Act → World → Prop), (∀ d : Nat, missB l.toArray d = true → b.tmps[d]? = a.tmps[d]?) → (∀ j d, j < n → listed.getD j true = true → dstOf l.toArray j = some d → d < a.tmps.size → b.tmps[d]? = some (V j)) →
      (∀ w', Ext w1 w' → K (b.put o.dst (V i)) w') → o.wp P b w1 K Q)
    (hend : ∀ g w1, Ext w w1 → w.heap.size ≤ g → Arr w1 g T cs → Q .normal (fillAllN l.toArray (boxV V n g) a l.length) w1) : (Code.region id l.toArray true).wp P Q a w := by
  refine wp_region_slots (boxV V n) (BoxR T n zs cs) 0 hm hs hb hg ?_ ?_ ?_
  · have h0 : ∀ k, k < l.length → (Array.replicate l.length false).getD k true = false := fun k hk => by simp [Array.getD, hk]
    exact ⟨(Ext.refl _).drew, fun h => (by rw [h0 n (by omega)] at h; cases h), fun h => (by rw [h0 (n + 1) (by omega)] at h; cases h)⟩
  · intro listed g w1 i o ho hun hdep hR b K E0 E1 hK
    have hil : i < l.length := (List.getElem?_eq_some_iff.1 ho).1
    by_cases hin : i < n
    · refine hhead listed w1 i o ho hin hdep hR.ext b K E0 (fun j d hj hl hd hds => ?_) (fun w' hx => ?_)
      · have h := E1 j d (by omega) hl hd hds
        rw [h]; unfold boxV; rw [if_pos hj]
      · have h := hK g w' (hR.keep hin hx) (fun _ _ _ => rfl)
        unfold boxV at h
        rw [if_pos hin] at h
        exact h
    · by_cases hie : i = n
      · subst hie
        obtain ⟨o2, ho2, hop, hdst⟩ := halloc
        rw [ho] at ho2
        injection ho2 with ho2
        subst ho2
        obtain ⟨ie, z, hie, hzz, hzl2⟩ := hz
        have hlist : ∀ k, k ≠ i → (listed.setIfInBounds i true).getD k true = listed.getD k true := fun k hk => getD_set_ne true (Ne.symm hk)
        have hnext : listed.getD (i + 1) true = false := by
          cases hq : listed.getD (i + 1) true
          · rfl
          · have := hR.st hq; rw [this] at hun; cases hun
        have hK2 := hK w1.heap.size (w1.alloc (.cells zs.toArray T)) ⟨hR.ext.alloc _, fun _ => ⟨hR.ext.size, by
            rw [hlist _ (by omega), hnext]
            exact Arr.new w1 T zs⟩, fun h => (by rw [hlist _ (by omega), hnext] at h; cases h)⟩ (fun j hj hl => by
            have hne : j ≠ i := fun e => by subst e; rw [hl] at hun; cases hun
            unfold boxV
            simp only [if_neg hne])
        have hbv : boxV V i w1.heap.size i = .pointer (some ⟨w1.heap.size, 0, none⟩) := by unfold boxV; simp
        rw [hbv] at hK2
        have hzc : z.cells = zs.toArray := by rw [← hzl2]
        have hrun : (execOp b.eval o).run P w1 = .ok (.value (.pointer (some ⟨w1.heap.size, 0, none⟩))) (w1.alloc (.cells zs.toArray T)) := by
          unfold execOp
          simp only [hop]
          simp [Instr.alloc, zeroValue, typeInfo, hie, hzz, newVar, newRow, hzc]
        unfold Oper.wp
        rw [hrun]
        exact hK2
      · have hie2 : i = n + 1 := by omega
        subst hie2
        obtain ⟨o2, ho2, hop, hdst, ⟨e1, he1, hon1, hbd1⟩, ⟨e2, he2, hon2, hbd2⟩⟩ := hstore
        rw [ho] at ho2
        injection ho2 with ho2
        subst ho2
        have hl1 := getD_up (hon1 ▸ hdep e1 he1 hbd1)
        have hl2 := getD_up (hon2 ▸ hdep e2 he2 hbd2)
        obtain ⟨q1, q2⟩ := hR.laid hl1
        rw [hun] at q2
        simp only [Bool.false_eq_true, if_false] at q2
        obtain ⟨oa, hoa, hopa, hdsta⟩ := halloc
        have hda : dstOf l.toArray n = some d := by simp [dstOf, hoa, hdsta]
        have t1 := E1 n d (by omega) hl1 hda hdd
        have t2 := E1 iv sv (by omega) hl2 hdv hds
        have bv1 : boxV V n g n = .pointer (some ⟨g, 0, none⟩) := by unfold boxV; simp
        have bv2 : boxV V n g iv = .agg cs.toArray := by unfold boxV; rw [if_pos hiv, hV]
        rw [bv1] at t1
        rw [bv2] at t2
        have hlist : ∀ k, k ≠ n + 1 → (listed.setIfInBounds (n + 1) true).getD k true = listed.getD k true := fun k hk => getD_set_ne true (Ne.symm hk)
        have hset : (listed.setIfInBounds (n + 1) true).getD (n + 1) true = true := by
          by_cases h : n + 1 < listed.size
          · simp [Array.getD, h]
          · simp [Array.getD, h]
        have hK2 := hK g (w1.setRow g cs.toArray) ⟨hR.ext.setRow q1 _, fun _ => ⟨q1, by rw [hset]; exact q2.setRow cs⟩, fun _ => by rw [hlist n (by omega)]; exact hl1⟩ (fun _ _ _ => rfl)
        have bv3 : boxV V n g (n + 1) = undef := by unfold boxV; rw [if_neg (by omega), if_neg (by omega)]
        rw [bv3] at hK2
        exact wp_store_row T (.tmp d) (.tmp sv) hop g cs.toArray (by simp [Act.eval, Array.getD_eq_getD_getElem?, t1]) (by simp [Act.eval, Array.getD_eq_getD_getElem?, t2]) T zs.toArray q2 (by simpa using hi) (by simpa using hzl) (by simpa using hone) hK2
  · intro listed g w1 hall hR
    rw [fill_done hall]
    obtain ⟨q1, q2⟩ := hR.laid (hall n (by omega))
    rw [if_pos (hall (n + 1) (by omega))] at q2
    exact hend g w1 hR.ext q1 q2
end
end Go.Proofs.YtjceebpafnnffaaDoor

namespace Go.Proofs.YtjceebpafnnffaaDoor
open Go Go.RowKit

theorem noGuard_spec {l : List Oper} (h : (l.all fun o => o.guard.isNone) = true) : ∀ (i : Nat) (o : Oper), l[i]? = some o → o.guard = none := fun i o ho => by
  have h1 := List.all_eq_true.1 h o (List.mem_of_getElem? ho)
  simpa using h1
def lowA (a b : Bx) : Nat → List Value
  | 0 => [.int .i64 a.lo.x, .int .i64 a.lo.y, .int .i64 a.lo.z]
  | 1 => [.int .i64 (max a.lo.x b.lo.x), .int .i64 a.lo.y, .int .i64 a.lo.z]
  | 2 => [.int .i64 (max a.lo.x b.lo.x), .int .i64 (max a.lo.y b.lo.y), .int .i64 a.lo.z]
  | _ => [.int .i64 (max a.lo.x b.lo.x), .int .i64 (max a.lo.y b.lo.y), .int .i64 (max a.lo.z b.lo.z)]
def highA (a b : Bx) : Nat → List Value
  | 0 => [.int .i64 a.hi.x, .int .i64 a.hi.y, .int .i64 a.hi.z]
  | 1 => [.int .i64 (min a.hi.x b.hi.x), .int .i64 a.hi.y, .int .i64 a.hi.z]
  | 2 => [.int .i64 (min a.hi.x b.hi.x), .int .i64 (min a.hi.y b.hi.y), .int .i64 a.hi.z]
  | _ => [.int .i64 (min a.hi.x b.hi.x), .int .i64 (min a.hi.y b.hi.y), .int .i64 (min a.hi.z b.hi.z)]
structure IntR (a b : Bx) (n2 nL nH nM nX : Nat) (w : World) (k : Nat) (wr : World) : Prop where
  L : Arr wr nL 92 (lowA a b k)
  H : Arr wr nH 92 (highA a b k)
  M : Arr wr nM 92 [.int .i64 b.lo.x, .int .i64 b.lo.y, .int .i64 b.lo.z]
  X : Arr wr nX 92 [.int .i64 b.hi.x, .int .i64 b.hi.y, .int .i64 b.hi.z]
  O : Arr wr n2 28 [.int .i64 zeroBx.lo.x, .int .i64 zeroBx.lo.y, .int .i64 zeroBx.lo.z, .int .i64 zeroBx.hi.x, .int .i64 zeroBx.hi.y, .int .i64 zeroBx.hi.z]
  ext : Ext w wr
def interV (a b : Bx) (_nL _nH : Nat) : Nat → Value
  | 0 => .agg #[.int .i64 ((meetB a b).lo).x, .int .i64 ((meetB a b).lo).y, .int .i64 ((meetB a b).lo).z]
  | 1 => .agg #[.int .i64 ((meetB a b).lo).x, .int .i64 ((meetB a b).lo).y, .int .i64 ((meetB a b).lo).z]
  | 2 => .agg #[.int .i64 ((meetB a b).hi).x, .int .i64 ((meetB a b).hi).y, .int .i64 ((meetB a b).hi).z]
  | 3 => .agg #[.int .i64 ((meetB a b).hi).x, .int .i64 ((meetB a b).hi).y, .int .i64 ((meetB a b).hi).z]
  | _ => .agg #[.int .i64 (meetB a b).lo.x, .int .i64 (meetB a b).lo.y, .int .i64 (meetB a b).lo.z, .int .i64 (meetB a b).hi.x, .int .i64 (meetB a b).hi.y, .int .i64 (meetB a b).hi.z]

theorem infoBox : (Tryd.prog.info? 28).map (fun i => (i.zero, i.size, i.bytes)) = some (some (.agg #[.int .i64 0, .int .i64 0, .int .i64 0, .int .i64 0, .int .i64 0, .int .i64 0]), 6, 48) := by kernel_rfl
set_option maxRecDepth 100000 in
set_option maxHeartbeats 8000000 in
theorem refIntersect_any (a b : Bx) (w : World) :
    Calls Tryd.prog 67 #[.agg #[.int .i64 a.lo.x, .int .i64 a.lo.y, .int .i64 a.lo.z, .int .i64 a.hi.x, .int .i64 a.hi.y, .int .i64 a.hi.z], .agg #[.int .i64 b.lo.x, .int .i64 b.lo.y, .int .i64 b.lo.z, .int .i64 b.hi.x, .int .i64 b.hi.y, .int .i64 b.hi.z]] w fun e w' => e = .returned (.agg #[.int .i64 (interB a b).lo.x, .int .i64 (interB a b).lo.y, .int .i64 (interB a b).lo.z, .int .i64 (interB a b).hi.x, .int .i64 (interB a b).hi.y, .int .i64 (interB a b).hi.z]) ∧ Ext w w' := by
  have hm := mixed
  have hG := near_old
  have HQ := Lib.hid (fun w' => refEmpty_any (meetB a b) w')
  have HI := Lib.hid (show interB a b = if emptyB (meetB a b) then zeroBx else meetB a b from rfl)
  go_enter Tryd.func67, Tryd.ntmps67
  go_upto_region 1 with fail
  obtain ⟨W0, hW⟩ : ∃ W, W = ((w.alloc (.cells #[.int .i64 a.lo.x, .int .i64 a.lo.y, .int .i64 a.lo.z, .int .i64 a.hi.x, .int .i64 a.hi.y, .int .i64 a.hi.z] 28)).alloc (.cells #[.int .i64 b.lo.x, .int .i64 b.lo.y, .int .i64 b.lo.z, .int .i64 b.hi.x, .int .i64 b.hi.y, .int .i64 b.hi.z] 28)).alloc (.cells #[.int .i64 0, .int .i64 0, .int .i64 0, .int .i64 0, .int .i64 0, .int .i64 0] 28) := ⟨_, rfl⟩
  have hx0 : Ext w W0 := by rw [hW]; exact (by repeat (first | with_reducible exact Ext.refl _ | with_reducible assumption | with_reducible refine Ext.alloc ?_ _ | with_reducible refine Ext.drew ?_ | (with_reducible refine Ext.setCell ?_ ?_ _; rotate_left; focus (first | (simp; done) | (simp; omega) | omega)) | (with_reducible refine Ext.setRow ?_ ?_ _; rotate_left; focus (first | (simp; done) | (simp; omega) | omega)) | with_reducible refine Ext.trans ?_ (by with_reducible assumption)))
  have B0 : Arr W0 w.heap.size 28 [.int .i64 a.lo.x, .int .i64 a.lo.y, .int .i64 a.lo.z, .int .i64 a.hi.x, .int .i64 a.hi.y, .int .i64 a.hi.z] := by rw [hW]; exact ((Arr.new w _ _).alloc _).alloc _
  have B1 : Arr W0 (w.heap.size + 1) 28 [.int .i64 b.lo.x, .int .i64 b.lo.y, .int .i64 b.lo.z, .int .i64 b.hi.x, .int .i64 b.hi.y, .int .i64 b.hi.z] := by rw [hW]; exact (Arr.new1 w _ _ _).alloc _
  have B2 : Arr W0 (w.heap.size + 1 + 1) 28 [.int .i64 zeroBx.lo.x, .int .i64 zeroBx.lo.y, .int .i64 zeroBx.lo.z, .int .i64 zeroBx.hi.x, .int .i64 zeroBx.hi.y, .int .i64 zeroBx.hi.z] := by
    rw [hW]
    have h := Arr.new ((w.alloc (.cells #[.int .i64 a.lo.x, .int .i64 a.lo.y, .int .i64 a.lo.z, .int .i64 a.hi.x, .int .i64 a.hi.y, .int .i64 a.hi.z] 28)).alloc (.cells #[.int .i64 b.lo.x, .int .i64 b.lo.y, .int .i64 b.lo.z, .int .i64 b.hi.x, .int .i64 b.hi.y, .int .i64 b.hi.z] 28)) 28 [.int .i64 0, .int .i64 0, .int .i64 0, .int .i64 0, .int .i64 0, .int .i64 0]
    simpa only [World.size_alloc_, zeroBx] using h
  rw [← hW]
  have hl2 := B2.lt
  clear hW
  go_wp2_with (first | (refine wpList_load_part 26 (.tmp 12) rfl rfl B0 0 [.int .i64 a.lo.x, .int .i64 a.lo.y, .int .i64 a.lo.z] rfl rfl _ Tryd.underlying26 rfl (by kernel_rfl) ?_) | (refine wpList_load_part 26 (.tmp 12) rfl rfl (B0.alloc _) 0 [.int .i64 a.lo.x, .int .i64 a.lo.y, .int .i64 a.lo.z] rfl rfl _ Tryd.underlying26 rfl (by kernel_rfl) ?_))
  ((refine (reflist_any a.lo _).mono ?_); rintro e wa ⟨rfl, xx⟩; have xz := xx.size; (try simp only [World.size_alloc_, World.size_setCell_] at xz); have B0 := Arr.ext (w' := wa) B0 (by repeat (first | with_reducible exact Ext.refl _ | with_reducible assumption | with_reducible refine Ext.alloc ?_ _ | with_reducible refine Ext.drew ?_ | (with_reducible refine Ext.setCell ?_ ?_ _; rotate_left; focus (first | (simp; done) | (simp; omega) | omega)) | (with_reducible refine Ext.setRow ?_ ?_ _; rotate_left; focus (first | (simp; done) | (simp; omega) | omega)) | with_reducible refine Ext.trans ?_ (by with_reducible assumption))); have cB0 := B0.cell; have fB0 := B0.frozen; have lB0 := B0.lt; have B1 := Arr.ext (w' := wa) B1 (by repeat (first | with_reducible exact Ext.refl _ | with_reducible assumption | with_reducible refine Ext.alloc ?_ _ | with_reducible refine Ext.drew ?_ | (with_reducible refine Ext.setCell ?_ ?_ _; rotate_left; focus (first | (simp; done) | (simp; omega) | omega)) | (with_reducible refine Ext.setRow ?_ ?_ _; rotate_left; focus (first | (simp; done) | (simp; omega) | omega)) | with_reducible refine Ext.trans ?_ (by with_reducible assumption))); have cB1 := B1.cell; have fB1 := B1.frozen; have lB1 := B1.lt; have B2 := Arr.ext (w' := wa) B2 (by repeat (first | with_reducible exact Ext.refl _ | with_reducible assumption | with_reducible refine Ext.alloc ?_ _ | with_reducible refine Ext.drew ?_ | (with_reducible refine Ext.setCell ?_ ?_ _; rotate_left; focus (first | (simp; done) | (simp; omega) | omega)) | (with_reducible refine Ext.setRow ?_ ?_ _; rotate_left; focus (first | (simp; done) | (simp; omega) | omega)) | with_reducible refine Ext.trans ?_ (by with_reducible assumption))); have cB2 := B2.cell; have fB2 := B2.frozen; have lB2 := B2.lt)
  have zA := B2.lt
  go_wp2_with (first | (refine wpList_load_part 26 (.tmp 15) rfl rfl B0 3 [.int .i64 a.hi.x, .int .i64 a.hi.y, .int .i64 a.hi.z] rfl rfl _ Tryd.underlying26 rfl (by kernel_rfl) ?_) | (refine wpList_load_part 26 (.tmp 15) rfl rfl (B0.alloc _) 3 [.int .i64 a.hi.x, .int .i64 a.hi.y, .int .i64 a.hi.z] rfl rfl _ Tryd.underlying26 rfl (by kernel_rfl) ?_))
  ((refine (reflist_any a.hi _).mono ?_); rintro e wb ⟨rfl, xx⟩; have xz := xx.size; (try simp only [World.size_alloc_] at xz); have B0 := Arr.ext (w' := wb) B0 (by repeat (first | with_reducible exact Ext.refl _ | with_reducible assumption | with_reducible refine Ext.alloc ?_ _ | with_reducible refine Ext.drew ?_ | (with_reducible refine Ext.setCell ?_ ?_ _; rotate_left; focus (first | (simp; done) | (simp; omega) | omega)) | (with_reducible refine Ext.setRow ?_ ?_ _; rotate_left; focus (first | (simp; done) | (simp; omega) | omega)) | with_reducible refine Ext.trans ?_ (by with_reducible assumption))); have cB0 := B0.cell; have fB0 := B0.frozen; have lB0 := B0.lt; have B1 := Arr.ext (w' := wb) B1 (by repeat (first | with_reducible exact Ext.refl _ | with_reducible assumption | with_reducible refine Ext.alloc ?_ _ | with_reducible refine Ext.drew ?_ | (with_reducible refine Ext.setCell ?_ ?_ _; rotate_left; focus (first | (simp; done) | (simp; omega) | omega)) | (with_reducible refine Ext.setRow ?_ ?_ _; rotate_left; focus (first | (simp; done) | (simp; omega) | omega)) | with_reducible refine Ext.trans ?_ (by with_reducible assumption))); have cB1 := B1.cell; have fB1 := B1.frozen; have lB1 := B1.lt; have B2 := Arr.ext (w' := wb) B2 (by repeat (first | with_reducible exact Ext.refl _ | with_reducible assumption | with_reducible refine Ext.alloc ?_ _ | with_reducible refine Ext.drew ?_ | (with_reducible refine Ext.setCell ?_ ?_ _; rotate_left; focus (first | (simp; done) | (simp; omega) | omega)) | (with_reducible refine Ext.setRow ?_ ?_ _; rotate_left; focus (first | (simp; done) | (simp; omega) | omega)) | with_reducible refine Ext.trans ?_ (by with_reducible assumption))); have cB2 := B2.cell; have fB2 := B2.frozen; have lB2 := B2.lt)
  have BL := (Arr.new wa 92 [.int .i64 a.lo.x, .int .i64 a.lo.y, .int .i64 a.lo.z]).ext xx
  have zB := BL.lt
  go_wp2_with (first | (refine wpList_load_part 26 (.tmp 18) rfl rfl B1 0 [.int .i64 b.lo.x, .int .i64 b.lo.y, .int .i64 b.lo.z] rfl rfl _ Tryd.underlying26 rfl (by kernel_rfl) ?_) | (refine wpList_load_part 26 (.tmp 18) rfl rfl (B1.alloc _) 0 [.int .i64 b.lo.x, .int .i64 b.lo.y, .int .i64 b.lo.z] rfl rfl _ Tryd.underlying26 rfl (by kernel_rfl) ?_))
  ((refine (reflist_any b.lo _).mono ?_); rintro e wc ⟨rfl, xx⟩; have xz := xx.size; (try simp only [World.size_alloc_] at xz); have B0 := Arr.ext (w' := wc) B0 (by repeat (first | with_reducible exact Ext.refl _ | with_reducible assumption | with_reducible refine Ext.alloc ?_ _ | with_reducible refine Ext.drew ?_ | (with_reducible refine Ext.setCell ?_ ?_ _; rotate_left; focus (first | (simp; done) | (simp; omega) | omega)) | (with_reducible refine Ext.setRow ?_ ?_ _; rotate_left; focus (first | (simp; done) | (simp; omega) | omega)) | with_reducible refine Ext.trans ?_ (by with_reducible assumption))); have cB0 := B0.cell; have fB0 := B0.frozen; have lB0 := B0.lt; have B1 := Arr.ext (w' := wc) B1 (by repeat (first | with_reducible exact Ext.refl _ | with_reducible assumption | with_reducible refine Ext.alloc ?_ _ | with_reducible refine Ext.drew ?_ | (with_reducible refine Ext.setCell ?_ ?_ _; rotate_left; focus (first | (simp; done) | (simp; omega) | omega)) | (with_reducible refine Ext.setRow ?_ ?_ _; rotate_left; focus (first | (simp; done) | (simp; omega) | omega)) | with_reducible refine Ext.trans ?_ (by with_reducible assumption))); have cB1 := B1.cell; have fB1 := B1.frozen; have lB1 := B1.lt; have B2 := Arr.ext (w' := wc) B2 (by repeat (first | with_reducible exact Ext.refl _ | with_reducible assumption | with_reducible refine Ext.alloc ?_ _ | with_reducible refine Ext.drew ?_ | (with_reducible refine Ext.setCell ?_ ?_ _; rotate_left; focus (first | (simp; done) | (simp; omega) | omega)) | (with_reducible refine Ext.setRow ?_ ?_ _; rotate_left; focus (first | (simp; done) | (simp; omega) | omega)) | with_reducible refine Ext.trans ?_ (by with_reducible assumption))); have cB2 := B2.cell; have fB2 := B2.frozen; have lB2 := B2.lt; have BL := Arr.ext (w' := wc) BL (by repeat (first | with_reducible exact Ext.refl _ | with_reducible assumption | with_reducible refine Ext.alloc ?_ _ | with_reducible refine Ext.drew ?_ | (with_reducible refine Ext.setCell ?_ ?_ _; rotate_left; focus (first | (simp; done) | (simp; omega) | omega)) | (with_reducible refine Ext.setRow ?_ ?_ _; rotate_left; focus (first | (simp; done) | (simp; omega) | omega)) | with_reducible refine Ext.trans ?_ (by with_reducible assumption))); have cBL := BL.cell; have fBL := BL.frozen; have lBL := BL.lt)
  have BH := (Arr.new wb 92 [.int .i64 a.hi.x, .int .i64 a.hi.y, .int .i64 a.hi.z]).ext xx
  have zC := BH.lt
  go_wp2_with (first | (refine wpList_load_part 26 (.tmp 21) rfl rfl B1 3 [.int .i64 b.hi.x, .int .i64 b.hi.y, .int .i64 b.hi.z] rfl rfl _ Tryd.underlying26 rfl (by kernel_rfl) ?_) | (refine wpList_load_part 26 (.tmp 21) rfl rfl (B1.alloc _) 3 [.int .i64 b.hi.x, .int .i64 b.hi.y, .int .i64 b.hi.z] rfl rfl _ Tryd.underlying26 rfl (by kernel_rfl) ?_))
  ((refine (reflist_any b.hi _).mono ?_); rintro e wd ⟨rfl, xx⟩; have xz := xx.size; (try simp only [World.size_alloc_] at xz); have B0 := Arr.ext (w' := wd) B0 (by repeat (first | with_reducible exact Ext.refl _ | with_reducible assumption | with_reducible refine Ext.alloc ?_ _ | with_reducible refine Ext.drew ?_ | (with_reducible refine Ext.setCell ?_ ?_ _; rotate_left; focus (first | (simp; done) | (simp; omega) | omega)) | (with_reducible refine Ext.setRow ?_ ?_ _; rotate_left; focus (first | (simp; done) | (simp; omega) | omega)) | with_reducible refine Ext.trans ?_ (by with_reducible assumption))); have cB0 := B0.cell; have fB0 := B0.frozen; have lB0 := B0.lt; have B1 := Arr.ext (w' := wd) B1 (by repeat (first | with_reducible exact Ext.refl _ | with_reducible assumption | with_reducible refine Ext.alloc ?_ _ | with_reducible refine Ext.drew ?_ | (with_reducible refine Ext.setCell ?_ ?_ _; rotate_left; focus (first | (simp; done) | (simp; omega) | omega)) | (with_reducible refine Ext.setRow ?_ ?_ _; rotate_left; focus (first | (simp; done) | (simp; omega) | omega)) | with_reducible refine Ext.trans ?_ (by with_reducible assumption))); have cB1 := B1.cell; have fB1 := B1.frozen; have lB1 := B1.lt; have B2 := Arr.ext (w' := wd) B2 (by repeat (first | with_reducible exact Ext.refl _ | with_reducible assumption | with_reducible refine Ext.alloc ?_ _ | with_reducible refine Ext.drew ?_ | (with_reducible refine Ext.setCell ?_ ?_ _; rotate_left; focus (first | (simp; done) | (simp; omega) | omega)) | (with_reducible refine Ext.setRow ?_ ?_ _; rotate_left; focus (first | (simp; done) | (simp; omega) | omega)) | with_reducible refine Ext.trans ?_ (by with_reducible assumption))); have cB2 := B2.cell; have fB2 := B2.frozen; have lB2 := B2.lt; have BL := Arr.ext (w' := wd) BL (by repeat (first | with_reducible exact Ext.refl _ | with_reducible assumption | with_reducible refine Ext.alloc ?_ _ | with_reducible refine Ext.drew ?_ | (with_reducible refine Ext.setCell ?_ ?_ _; rotate_left; focus (first | (simp; done) | (simp; omega) | omega)) | (with_reducible refine Ext.setRow ?_ ?_ _; rotate_left; focus (first | (simp; done) | (simp; omega) | omega)) | with_reducible refine Ext.trans ?_ (by with_reducible assumption))); have cBL := BL.cell; have fBL := BL.frozen; have lBL := BL.lt; have BH := Arr.ext (w' := wd) BH (by repeat (first | with_reducible exact Ext.refl _ | with_reducible assumption | with_reducible refine Ext.alloc ?_ _ | with_reducible refine Ext.drew ?_ | (with_reducible refine Ext.setCell ?_ ?_ _; rotate_left; focus (first | (simp; done) | (simp; omega) | omega)) | (with_reducible refine Ext.setRow ?_ ?_ _; rotate_left; focus (first | (simp; done) | (simp; omega) | omega)) | with_reducible refine Ext.trans ?_ (by with_reducible assumption))); have cBH := BH.cell; have fBH := BH.frozen; have lBH := BH.lt)
  have BM := (Arr.new wc 92 [.int .i64 b.lo.x, .int .i64 b.lo.y, .int .i64 b.lo.z]).ext xx
  have zD := BM.lt
  have hxd : Ext w wd := (by repeat (first | with_reducible exact Ext.refl _ | with_reducible assumption | with_reducible refine Ext.alloc ?_ _ | with_reducible refine Ext.drew ?_ | (with_reducible refine Ext.setCell ?_ ?_ _; rotate_left; focus (first | (simp; done) | (simp; omega) | omega)) | (with_reducible refine Ext.setRow ?_ ?_ _; rotate_left; focus (first | (simp; done) | (simp; omega) | omega)) | with_reducible refine Ext.trans ?_ (by with_reducible assumption)))
  clear xx xz
  have HR0 := Lib.hid (IntR.mk (BL.alloc (.cells #[.int .i64 b.hi.x, .int .i64 b.hi.y, .int .i64 b.hi.z] 92)) (BH.alloc _) (BM.alloc _) (Arr.new wd 92 [.int .i64 b.hi.x, .int .i64 b.hi.y, .int .i64 b.hi.z]) (B2.alloc _) (hxd.alloc _) : IntR a b (w.heap.size + 1 + 1) wa.heap.size wb.heap.size wc.heap.size wd.heap.size w 0 (wd.alloc (.cells #[.int .i64 b.hi.x, .int .i64 b.hi.y, .int .i64 b.hi.z] 92)))
  clear cBL fBL lBL cBH fBH lBH cB0 fB0 lB0 cB1 fB1 lB1 cB2 fB2 lB2
  go_wp2_with fail
  go_loopw [9] (fun i wr => ∃ k : Nat, k ≤ 3 ∧ i = .int .i64 k ∧ IntR a b (w.heap.size + 1 + 1) wa.heap.size wb.heap.size wc.heap.size wd.heap.size w k wr) (fun i _ => 3 - (intOf i).toNat)
  case atStart => exact ⟨0, by omega, rfl, HR0.out⟩
  case round =>
    obtain ⟨k, hk, rfl, hR⟩ := hrel
    obtain rfl | rfl | rfl | rfl : k = 0 ∨ k = 1 ∨ k = 2 ∨ k = 3 := by omega
    · have L := hR.L.cell; have H := hR.H.cell; have M := hR.M.cell; have X := hR.X.cell
      have qL := hR.L.lt; have qH := hR.H.lt; have qM := hR.M.lt; have qX := hR.X.lt
      simp only [lowA, highA] at L H
      have HR := Lib.hid hR; clear hR
      go_wp2_with fail
      refine wp_region_near_tail 9 (by assumption) (by kernel_rfl) ?_
      simp only [List.take_succ_cons, List.take_zero, List.drop_succ_cons, List.drop_zero]
      repeat (go_big_quiet_step (fail))
      refine wpQuiet_nil ?_
      intro w1 hw1
      have hy := Ext.of_near hw1
      clear hw1
      have L1 := HR.out.L.ext hy; have H1 := HR.out.H.ext hy; have M1 := HR.out.M.ext hy; have X1 := HR.out.X.ext hy; have O1 := HR.out.O.ext hy
      have e1 := HR.out.ext.trans hy
      clear hy
      have V := Int.le_refl 0
      have L2 := L1.set 0 (.int .i64 (max a.lo.x b.lo.x))
      have H2 := H1.other (p := ⟨wa.heap.size, 0, none⟩) (by simp only; omega) (.int .i64 (max a.lo.x b.lo.x))
      have M2 := M1.other (p := ⟨wa.heap.size, 0, none⟩) (by simp only; omega) (.int .i64 (max a.lo.x b.lo.x))
      have X2 := X1.other (p := ⟨wa.heap.size, 0, none⟩) (by simp only; omega) (.int .i64 (max a.lo.x b.lo.x))
      have O2 := O1.other (p := ⟨wa.heap.size, 0, none⟩) (by simp only; omega) (.int .i64 (max a.lo.x b.lo.x))
      have e2 := e1.setCell (p := ⟨wa.heap.size, 0, none⟩) (by simp only; omega) (.int .i64 (max a.lo.x b.lo.x))
      have L3 := L1.cell; have fL := L1.frozen
      have H := H2.cell; have M := M2.cell; have X := X2.cell
      have qH := H2.lt; have qX := X2.lt
      simp only [World.size_setCell_] at qH qX
      simp only [lowA, highA] at L3 H
      have HL := Lib.hid L2; have HH := Lib.hid H2; have HM := Lib.hid M2; have HX := Lib.hid X2; have HO := Lib.hid O2; have HE := Lib.hid e2
      clear L1 H1 M1 X1 O1 e1 L2 H2 M2 X2 O2 e2 V
      go_wp2_with fail
      refine wp_region_near_tail 9 (by assumption) (by kernel_rfl) ?_
      simp only [List.take_succ_cons, List.take_zero, List.drop_succ_cons, List.drop_zero]
      repeat (go_big_quiet_step (fail))
      refine wpQuiet_nil ?_
      intro w1 hw1
      have hy := Ext.of_near hw1
      clear hw1
      have L1 := HL.out.ext hy; have H1 := HH.out.ext hy; have M1 := HM.out.ext hy; have X1 := HX.out.ext hy; have O1 := HO.out.ext hy
      have e1 := HE.out.trans hy
      clear hy
      have H3 := H1.cell; have fH := H1.frozen
      simp only [highA] at H3
      have HL := Lib.hid L1; have HH := Lib.hid H1; have HM := Lib.hid M1; have HX := Lib.hid X1; have HO := Lib.hid O1; have HE := Lib.hid e1
      clear L1 H1 M1 X1 O1 e1
      go_wp2
      go_roundw
      case rel =>
        exact ⟨1, by omega, rfl, HL.out.other (by simp only; omega) _, HH.out.set 0 (.int .i64 (min a.hi.x b.hi.x)), HM.out.other (by simp only; omega) _, HX.out.other (by simp only; omega) _, HO.out.other (by simp only; omega) _, HE.out.setCell (by simp only; omega) _⟩
      case measure => simp [intOf]
    · have L := hR.L.cell; have H := hR.H.cell; have M := hR.M.cell; have X := hR.X.cell
      have qL := hR.L.lt; have qH := hR.H.lt; have qM := hR.M.lt; have qX := hR.X.lt
      simp only [lowA, highA] at L H
      have HR := Lib.hid hR; clear hR
      go_wp2_with fail
      refine wp_region_near_tail 9 (by assumption) (by kernel_rfl) ?_
      simp only [List.take_succ_cons, List.take_zero, List.drop_succ_cons, List.drop_zero]
      repeat (go_big_quiet_step (fail))
      refine wpQuiet_nil ?_
      intro w1 hw1
      have hy := Ext.of_near hw1
      clear hw1
      have L1 := HR.out.L.ext hy; have H1 := HR.out.H.ext hy; have M1 := HR.out.M.ext hy; have X1 := HR.out.X.ext hy; have O1 := HR.out.O.ext hy
      have e1 := HR.out.ext.trans hy
      clear hy
      have V := Int.le_refl 0
      have L2 := L1.set 1 (.int .i64 (max a.lo.y b.lo.y))
      have H2 := H1.other (p := ⟨wa.heap.size, 1, none⟩) (by simp only; omega) (.int .i64 (max a.lo.y b.lo.y))
      have M2 := M1.other (p := ⟨wa.heap.size, 1, none⟩) (by simp only; omega) (.int .i64 (max a.lo.y b.lo.y))
      have X2 := X1.other (p := ⟨wa.heap.size, 1, none⟩) (by simp only; omega) (.int .i64 (max a.lo.y b.lo.y))
      have O2 := O1.other (p := ⟨wa.heap.size, 1, none⟩) (by simp only; omega) (.int .i64 (max a.lo.y b.lo.y))
      have e2 := e1.setCell (p := ⟨wa.heap.size, 1, none⟩) (by simp only; omega) (.int .i64 (max a.lo.y b.lo.y))
      have L3 := L1.cell; have fL := L1.frozen
      have H := H2.cell; have M := M2.cell; have X := X2.cell
      have qH := H2.lt; have qX := X2.lt
      simp only [World.size_setCell_] at qH qX
      simp only [lowA, highA] at L3 H
      have HL := Lib.hid L2; have HH := Lib.hid H2; have HM := Lib.hid M2; have HX := Lib.hid X2; have HO := Lib.hid O2; have HE := Lib.hid e2
      clear L1 H1 M1 X1 O1 e1 L2 H2 M2 X2 O2 e2 V
      go_wp2_with fail
      refine wp_region_near_tail 9 (by assumption) (by kernel_rfl) ?_
      simp only [List.take_succ_cons, List.take_zero, List.drop_succ_cons, List.drop_zero]
      repeat (go_big_quiet_step (fail))
      refine wpQuiet_nil ?_
      intro w1 hw1
      have hy := Ext.of_near hw1
      clear hw1
      have L1 := HL.out.ext hy; have H1 := HH.out.ext hy; have M1 := HM.out.ext hy; have X1 := HX.out.ext hy; have O1 := HO.out.ext hy
      have e1 := HE.out.trans hy
      clear hy
      have H3 := H1.cell; have fH := H1.frozen
      simp only [highA] at H3
      have HL := Lib.hid L1; have HH := Lib.hid H1; have HM := Lib.hid M1; have HX := Lib.hid X1; have HO := Lib.hid O1; have HE := Lib.hid e1
      clear L1 H1 M1 X1 O1 e1
      go_wp2
      go_roundw
      case rel =>
        exact ⟨2, by omega, rfl, HL.out.other (by simp only; omega) _, HH.out.set 1 (.int .i64 (min a.hi.y b.hi.y)), HM.out.other (by simp only; omega) _, HX.out.other (by simp only; omega) _, HO.out.other (by simp only; omega) _, HE.out.setCell (by simp only; omega) _⟩
      case measure => simp [intOf]
    · have L := hR.L.cell; have H := hR.H.cell; have M := hR.M.cell; have X := hR.X.cell
      have qL := hR.L.lt; have qH := hR.H.lt; have qM := hR.M.lt; have qX := hR.X.lt
      simp only [lowA, highA] at L H
      have HR := Lib.hid hR; clear hR
      go_wp2_with fail
      refine wp_region_near_tail 9 (by assumption) (by kernel_rfl) ?_
      simp only [List.take_succ_cons, List.take_zero, List.drop_succ_cons, List.drop_zero]
      repeat (go_big_quiet_step (fail))
      refine wpQuiet_nil ?_
      intro w1 hw1
      have hy := Ext.of_near hw1
      clear hw1
      have L1 := HR.out.L.ext hy; have H1 := HR.out.H.ext hy; have M1 := HR.out.M.ext hy; have X1 := HR.out.X.ext hy; have O1 := HR.out.O.ext hy
      have e1 := HR.out.ext.trans hy
      clear hy
      have V := Int.le_refl 0
      have L2 := L1.set 2 (.int .i64 (max a.lo.z b.lo.z))
      have H2 := H1.other (p := ⟨wa.heap.size, 2, none⟩) (by simp only; omega) (.int .i64 (max a.lo.z b.lo.z))
      have M2 := M1.other (p := ⟨wa.heap.size, 2, none⟩) (by simp only; omega) (.int .i64 (max a.lo.z b.lo.z))
      have X2 := X1.other (p := ⟨wa.heap.size, 2, none⟩) (by simp only; omega) (.int .i64 (max a.lo.z b.lo.z))
      have O2 := O1.other (p := ⟨wa.heap.size, 2, none⟩) (by simp only; omega) (.int .i64 (max a.lo.z b.lo.z))
      have e2 := e1.setCell (p := ⟨wa.heap.size, 2, none⟩) (by simp only; omega) (.int .i64 (max a.lo.z b.lo.z))
      have L3 := L1.cell; have fL := L1.frozen
      have H := H2.cell; have M := M2.cell; have X := X2.cell
      have qH := H2.lt; have qX := X2.lt
      simp only [World.size_setCell_] at qH qX
      simp only [lowA, highA] at L3 H
      have HL := Lib.hid L2; have HH := Lib.hid H2; have HM := Lib.hid M2; have HX := Lib.hid X2; have HO := Lib.hid O2; have HE := Lib.hid e2
      clear L1 H1 M1 X1 O1 e1 L2 H2 M2 X2 O2 e2 V
      go_wp2_with fail
      refine wp_region_near_tail 9 (by assumption) (by kernel_rfl) ?_
      simp only [List.take_succ_cons, List.take_zero, List.drop_succ_cons, List.drop_zero]
      repeat (go_big_quiet_step (fail))
      refine wpQuiet_nil ?_
      intro w1 hw1
      have hy := Ext.of_near hw1
      clear hw1
      have L1 := HL.out.ext hy; have H1 := HH.out.ext hy; have M1 := HM.out.ext hy; have X1 := HX.out.ext hy; have O1 := HO.out.ext hy
      have e1 := HE.out.trans hy
      clear hy
      have H3 := H1.cell; have fH := H1.frozen
      simp only [highA] at H3
      have HL := Lib.hid L1; have HH := Lib.hid H1; have HM := Lib.hid M1; have HX := Lib.hid X1; have HO := Lib.hid O1; have HE := Lib.hid e1
      clear L1 H1 M1 X1 O1 e1
      go_wp2
      go_roundw
      case rel =>
        exact ⟨3, by omega, rfl, HL.out.other (by simp only; omega) _, HH.out.set 2 (.int .i64 (min a.hi.z b.hi.z)), HM.out.other (by simp only; omega) _, HX.out.other (by simp only; omega) _, HO.out.other (by simp only; omega) _, HE.out.setCell (by simp only; omega) _⟩
      case measure => simp [intOf]
    · have HR := Lib.hid hR; clear hR
      go_wp2_with fail
      obtain ⟨i0, hi0, hz0, hz1, hz2⟩ := info_parts infoBox
      refine wp_region_box (interV a b wa.heap.size wb.heap.size) 5 28 10 50 4 [.int .i64 zeroBx.lo.x, .int .i64 zeroBx.lo.y, .int .i64 zeroBx.lo.z, .int .i64 zeroBx.hi.x, .int .i64 zeroBx.hi.y, .int .i64 zeroBx.hi.z] [.int .i64 (meetB a b).lo.x, .int .i64 (meetB a b).lo.y, .int .i64 (meetB a b).lo.z, .int .i64 (meetB a b).hi.x, .int .i64 (meetB a b).hi.y, .int .i64 (meetB a b).hi.z] (by assumption) (by kernel_rfl) (by kernel_rfl) (noGuard_spec (by kernel_rfl)) rfl ⟨_, rfl, rfl, rfl⟩
        ⟨_, rfl, rfl, rfl, ⟨⟨5, .data⟩, by simp, rfl, rfl⟩, ⟨⟨4, .data⟩, by simp, rfl, rfl⟩⟩ (by omega) rfl (by simp) (by simp) rfl ⟨i0, _, hi0, hz0, rfl⟩ (by kernel_rfl) rfl rfl ?_ ?_
      · intro listed w1 i o ho hin hdep hx1 b' K E0 E1 hK
        have hun : True := trivial
        match i, ho with
        | 0, ho =>
          injection ho with ho
          subst ho
          have e4 := E0 5 (by kernel_rfl)
          simp only [List.getElem?_toArray, List.getElem?_cons_zero, List.getElem?_cons_succ] at e4
          have hA := (HR.out.L).ext hx1
          simp only [lowA] at hA
          exact wp_load_row 92 (.tmp 5) rfl _ (by simp [Act.eval, Array.getD_eq_getD_getElem?, e4]) 92 _ (0, 0) _ hA Tryd.underlying92 rfl (by kernel_rfl) (hK w1 (Ext.refl _))
        | 2, ho =>
          injection ho with ho
          subst ho
          have e4 := E0 6 (by kernel_rfl)
          simp only [List.getElem?_toArray, List.getElem?_cons_zero, List.getElem?_cons_succ] at e4
          have hA := (HR.out.H).ext hx1
          simp only [highA] at hA
          exact wp_load_row 92 (.tmp 6) rfl _ (by simp [Act.eval, Array.getD_eq_getD_getElem?, e4]) 92 _ (0, 0) _ hA Tryd.underlying92 rfl (by kernel_rfl) (hK w1 (Ext.refl _))
        | 1, ho =>
          injection ho with ho
          subst ho
          have d1 := hdep ⟨0, .data⟩ (by simp) rfl
          have e4 := E1 0 46 (by decide) (getD_up d1) rfl (by simp)
          simp only [interV] at e4
          clear hdep E0 E1 hun
          unfold Oper.wp
          simp [e4, go_sem]
          refine (refof_any (meetB a b).lo _).mono ?_
          rintro e w2 ⟨rfl, hx2⟩
          exact hK w2 hx2
        | 3, ho =>
          injection ho with ho
          subst ho
          have d1 := hdep ⟨2, .data⟩ (by simp) rfl
          have e4 := E1 2 48 (by decide) (getD_up d1) rfl (by simp)
          simp only [interV] at e4
          clear hdep E0 E1 hun
          unfold Oper.wp
          simp [e4, go_sem]
          refine (refof_any (meetB a b).hi _).mono ?_
          rintro e w2 ⟨rfl, hx2⟩
          exact hK w2 hx2
        | 4, ho =>
          injection ho with ho
          subst ho
          have d1 := hdep ⟨1, .data⟩ (by simp) rfl
          have d3 := hdep ⟨3, .data⟩ (by simp) rfl
          have e4 := E1 1 47 (by decide) (getD_up d1) rfl (by simp)
          have e5 := E1 3 49 (by decide) (getD_up d3) rfl (by simp)
          simp only [interV] at e4 e5
          have hK2 := hK w1 (Ext.refl _)
          clear hdep E0 E1 hun
          unfold Oper.wp
          simp [execOp, e4, e5, go_sem]
          exact hK2
        | n + 5, ho => omega
      · intro g w1 hx1 hg hA
        simp only [List.length_cons, List.length_nil, fillAllN, dstOf, boxV, interV, Act.put, List.getElem?_toArray, List.getElem?_cons_zero, List.getElem?_cons_succ, Option.bind_some]
        have hO := (HR.out.O).ext hx1
        have he := HR.out.ext.trans hx1
        generalize emptyB (meetB a b) = be at HQ HI
        have HI2 := HI.out
        clear HR hm hG HR0
        simp
        go_wp2_with (first | (refine wpList_load_blk 28 (.tmp 10) rfl rfl hA rfl _ Tryd.underlying28 rfl (by kernel_rfl) ?_) | (refine wpList_load_blk 28 (.tmp 10) rfl rfl (hA.alloc _) rfl _ Tryd.underlying28 rfl (by kernel_rfl) ?_) | (refine wpList_load_blk 28 (.tmp 10) rfl rfl ((hA.alloc _).alloc _) rfl _ Tryd.underlying28 rfl (by kernel_rfl) ?_))
        ((refine (HQ.out _).mono ?_); rintro e wx ⟨rfl, xx⟩; have xz := xx.size; (try simp only [World.size_alloc_, World.size_setCell_] at xz); have hA := Arr.ext (w' := wx) hA (by repeat (first | with_reducible exact Ext.refl _ | with_reducible assumption | with_reducible refine Ext.alloc ?_ _ | with_reducible refine Ext.drew ?_ | (with_reducible refine Ext.setCell ?_ ?_ _; rotate_left; focus (first | (simp; done) | (simp; omega) | omega)) | (with_reducible refine Ext.setRow ?_ ?_ _; rotate_left; focus (first | (simp; done) | (simp; omega) | omega)) | with_reducible refine Ext.trans ?_ (by with_reducible assumption))); have chA := hA.cell; have fhA := hA.frozen; have lhA := hA.lt; have hO := Arr.ext (w' := wx) hO (by repeat (first | with_reducible exact Ext.refl _ | with_reducible assumption | with_reducible refine Ext.alloc ?_ _ | with_reducible refine Ext.drew ?_ | (with_reducible refine Ext.setCell ?_ ?_ _; rotate_left; focus (first | (simp; done) | (simp; omega) | omega)) | (with_reducible refine Ext.setRow ?_ ?_ _; rotate_left; focus (first | (simp; done) | (simp; omega) | omega)) | with_reducible refine Ext.trans ?_ (by with_reducible assumption))); have chO := hO.cell; have fhO := hO.frozen; have lhO := hO.lt)
        cases be
        · have hi : interB a b = meetB a b := HI2
          have HI3 := Lib.hid hi
          clear HI2 hi HI
          go_wp2_with (first | (refine wpList_load_blk 28 (.tmp 10) rfl rfl hA rfl _ Tryd.underlying28 rfl (by kernel_rfl) ?_) | (refine wpList_load_blk 28 (.tmp 10) rfl rfl (hA.alloc _) rfl _ Tryd.underlying28 rfl (by kernel_rfl) ?_) | (refine wpList_load_blk 28 (.tmp 10) rfl rfl ((hA.alloc _).alloc _) rfl _ Tryd.underlying28 rfl (by kernel_rfl) ?_) | (refine wpList_store_blk 28 (.tmp 4) (.tmp 55) rfl rfl hO [.int .i64 (meetB a b).lo.x, .int .i64 (meetB a b).lo.y, .int .i64 (meetB a b).lo.z, .int .i64 (meetB a b).hi.x, .int .i64 (meetB a b).hi.y, .int .i64 (meetB a b).hi.z] rfl rfl (by kernel_rfl) rfl rfl ?_))
          rw [HI3.out]
          have hO2 := hO.setRow [.int .i64 (meetB a b).lo.x, .int .i64 (meetB a b).lo.y, .int .i64 (meetB a b).lo.z, .int .i64 (meetB a b).hi.x, .int .i64 (meetB a b).hi.y, .int .i64 (meetB a b).hi.z]
          (try simp only [Exit.inBlock, Exit.then])
          refine bodyPost_ret (v := .agg #[.int .i64 (meetB a b).lo.x, .int .i64 (meetB a b).lo.y, .int .i64 (meetB a b).lo.z, .int .i64 (meetB a b).hi.x, .int .i64 (meetB a b).hi.y, .int .i64 (meetB a b).hi.z]) ?_ rfl ⟨rfl, (by repeat (first | with_reducible exact Ext.refl _ | with_reducible assumption | with_reducible refine Ext.alloc ?_ _ | with_reducible refine Ext.drew ?_ | (with_reducible refine Ext.setCell ?_ ?_ _; rotate_left; focus (first | (simp; done) | (simp; omega) | omega)) | (with_reducible refine Ext.setRow ?_ ?_ _; rotate_left; focus (first | (simp; done) | (simp; omega) | omega)) | with_reducible refine Ext.trans ?_ (by with_reducible assumption)))⟩
          exact results_cell_row Tryd.results67 _ _ _ _ _ _ _ rfl hO2 Tryd.underlying28 rfl (by kernel_rfl)
        · have hi : interB a b = zeroBx := HI2
          have HI3 := Lib.hid hi
          clear HI2 hi HI
          go_wp2_with (first | (refine wpList_store_blk 28 (.tmp 4) (.tmp 54) rfl rfl hO [.int .i64 zeroBx.lo.x, .int .i64 zeroBx.lo.y, .int .i64 zeroBx.lo.z, .int .i64 zeroBx.hi.x, .int .i64 zeroBx.hi.y, .int .i64 zeroBx.hi.z] rfl rfl (by kernel_rfl) rfl rfl ?_))
          rw [HI3.out]
          have hO2 := hO.setRow [.int .i64 zeroBx.lo.x, .int .i64 zeroBx.lo.y, .int .i64 zeroBx.lo.z, .int .i64 zeroBx.hi.x, .int .i64 zeroBx.hi.y, .int .i64 zeroBx.hi.z]
          (try simp only [Exit.inBlock, Exit.then])
          refine bodyPost_ret (v := .agg #[.int .i64 zeroBx.lo.x, .int .i64 zeroBx.lo.y, .int .i64 zeroBx.lo.z, .int .i64 zeroBx.hi.x, .int .i64 zeroBx.hi.y, .int .i64 zeroBx.hi.z]) ?_ rfl ⟨rfl, (by repeat (first | with_reducible exact Ext.refl _ | with_reducible assumption | with_reducible refine Ext.alloc ?_ _ | with_reducible refine Ext.drew ?_ | (with_reducible refine Ext.setCell ?_ ?_ _; rotate_left; focus (first | (simp; done) | (simp; omega) | omega)) | (with_reducible refine Ext.setRow ?_ ?_ _; rotate_left; focus (first | (simp; done) | (simp; omega) | omega)) | with_reducible refine Ext.trans ?_ (by with_reducible assumption)))⟩
          exact results_cell_row Tryd.results67 _ _ _ _ _ _ _ rfl hO2 Tryd.underlying28 rfl (by kernel_rfl)
end Go.Proofs.YtjceebpafnnffaaDoor

namespace Go.Proofs.YtjceebpafnnffaaDoor
open Go Go.RowKit

section
variable {P : Program} (w : World)
theorem run_append_mine (base : Nat) (t ty e : TypeId) (i : TypeInfo) (z : Value) (size bytes : Nat) (ht : P.underlying t = some (.slice e)) (hi : P.info? e = some i) (hz : i.zero = some z)
    (hsize : i.size = size) (hby : i.bytes = bytes) (hzs : z.cells.size = size) (hsz : 0 < size)
    (v : Value) (n : Nat) (xs : List Value) (hown : w.ownsRow base e size v n xs)
    (a : Addr) (m c : Nat) (news : List Value) (hl : news.length = m * size) (hnews : ∀ j u, news[j]? = some u → w.cell? (a.add j) = some u) (h1 : ∀ u ∈ news, u.oneCell' = true)
    (h63 : n + m ≤ maxLen) (hbytes : (n + m) * bytes ≤ 140737488355328) (hbase : base ≤ w.heap.size) :
    ∃ v' w', (Builtin.append_ #[t, t] ty #[v, .slice (some a) m c]).run P w = .ok v' w' ∧ w'.ownsRow base e size v' (n + m) (xs ++ news) ∧ w.grownBy w' v.ownBlock ∧
      (v'.ownBlock = v.ownBlock ∨ ∀ b, v'.ownBlock = some b → w.heap.size ≤ b) := by
  obtain ⟨v', w', hr, ho, hg, _⟩ := run_append_own (P := P) w base t ty e i z size bytes ht hi hz hsize hby hzs hsz v n xs hown a m c news hl hnews h1 h63 hbytes hbase
  refine ⟨v', w', hr, ho, hg, ?_⟩
  rcases hown.2 with ⟨rfl, rfl⟩ | ⟨g, cap, cur, rfl, hbg, hgc, hnc, hcm, hcs, htake⟩
  · have hx : xs = [] := List.eq_nil_of_length_eq_zero (by simpa using hown.1)
    subst hx
    obtain ⟨v2, w2, hr2, ho2, _, _⟩ := run_append_own (P := P) w w.heap.size t ty e i z size bytes ht hi hz hsize hby hzs hsz (.slice none 0 0) 0 [] (World.ownsRow_nil _ _ _ _) a m c news hl hnews h1 h63 hbytes (Nat.le_refl _)
    rw [hr] at hr2
    injection hr2 with e1 e2
    subst e1 e2
    refine .inr fun b hb => ?_
    rcases ho2.2 with ⟨rfl, _⟩ | ⟨g, cap, cur, rfl, hbg, _⟩
    · simp [Value.ownBlock] at hb
    · simp only [Value.ownBlock, Option.some.injEq] at hb
      omega
  · by_cases hroom : n + m ≤ cap
    · obtain ⟨w2, hr2, _, _⟩ := run_append_own_spare (P := P) w base t ty e i size ht hi hsize g n cap xs hown a m c news hl hnews h1 hroom
      rw [hr] at hr2
      injection hr2 with e1 e2
      subst e1
      exact .inl rfl
    · have holds : ∀ j u, xs[j]? = some u → w.cell? ((⟨g, 0, none⟩ : Addr).add j) = some u := hown.cells (g := g) rfl
      have hr2 := run_append_grow (P := P) (w := w) t ty e i z ht hi hz ⟨g, 0, none⟩ n cap xs (by rw [hsize]; exact hown.1) holds a m c news (by rw [hsize]; exact hl) hnews (by omega) (by simp only [maxLen] at h63; omega) (growslice_fits (by omega) (by rw [hby]; exact hbytes))
      rw [hr] at hr2
      injection hr2 with e1 e2
      subst e1
      refine .inr fun b hb => ?_
      simp only [Value.ownBlock, Option.some.injEq] at hb
      omega
theorem wpList_append_mine {ops : Array Oper} {rest : List Oper} {o : Oper} {a : Act} {Q : Exit → Act → World → Prop} (hgd : o.guard = none) (s x : Operand) (t : TypeId)
    (ho : o.op = .call { callee := .builtin .append, args := #[s, x], argTypes := #[t, t] })
    (base : Nat) (e : TypeId) (i : TypeInfo) (z : Value) (size bytes : Nat) (ht : P.underlying t = some (.slice e)) (hi : P.info? e = some i) (hz : i.zero = some z)
    (hsize : i.size = size) (hby : i.bytes = bytes) (hzs : z.cells.size = size) (hsz : 0 < size)
    (v : Value) (n : Nat) (xs : List Value) (hs : a.eval s = v) (hown : w.ownsRow base e size v n xs)
    (ad : Addr) (m c : Nat) (news : List Value) (hx : a.eval x = .slice (some ad) m c) (hl : news.length = m * size) (hnews : ∀ j u, news[j]? = some u → w.cell? (ad.add j) = some u) (h1 : ∀ u ∈ news, u.oneCell' = true)
    (h63 : n + m ≤ maxLen) (hbytes : (n + m) * bytes ≤ 140737488355328) (hbase : base ≤ w.heap.size)
    (h : ∀ v' w', w'.ownsRow base e size v' (n + m) (xs ++ news) → w.grownBy w' v.ownBlock → (v'.ownBlock = v.ownBlock ∨ ∀ b, v'.ownBlock = some b → w.heap.size ≤ b) → wpList P ops Q rest (a.put o.dst v') w') : wpList P ops Q (o :: rest) a w := by
  refine wpList_plain hgd fun K hK' => ?_
  obtain ⟨v', w', hrun, r1, r2, r3⟩ := run_append_mine (P := P) w base t o.type e i z size bytes ht hi hz hsize hby hzs hsz v n xs hown ad m c news hl hnews h1 h63 hbytes hbase
  unfold Oper.wp
  simp [execOp, ho, resolve, invoke, builtin, hs, hx, hrun, Result.andThen]
  exact hK' _ _ (h v' w' r1 r2 r3)
end

section
variable {w w' : World} {B k c : Nat} {A : Option Addr} {xs : List (List Value)}
/-- The slice's block is not the row's. -/
def Apart (xs : List (List Value)) (A : Option Addr) (v : Value) : Prop := 0 < xs.length → ∀ a : Addr, A = some a → v.ownBlock ≠ some a.block
theorem Sl.grown (h : Sl w w.heap.size k A c xs) {v : Value} (hg : w.grownBy w' v.ownBlock) (ha : Apart xs A v) : Sl w' w'.heap.size k A c xs :=
  ⟨h.le, h.max, h.rows, fun hn => by
    obtain ⟨b, off, e, hb, hc⟩ := h.mem hn
    refine ⟨b, off, e, Nat.lt_of_lt_of_le hb hg.size, fun j u hu => ?_⟩
    have h1 := hc j u hu
    have h2 := hg.block b hb (fun hh => ha hn _ e hh.symm)
    unfold World.cell? at h1 ⊢
    simp only at h1 ⊢
    rw [h2]
    exact h1⟩
theorem Apart.fresh {w : World} {base k n : Nat} {e : TypeId} {v : Value} {zs : List Value} (ho : w.ownsRow base e k v n zs) (hA : ∀ a : Addr, A = some a → w.heap.size ≤ a.block) : Apart xs A v := fun _ a ha hb => by
  have h1 := hA a ha
  rcases ho.2 with ⟨rfl, _⟩ | ⟨g, cap, cur, rfl, _, hg, _⟩
  · simp [Value.ownBlock] at hb
  · simp only [Value.ownBlock, Option.some.injEq] at hb
    have := (Array.getElem?_eq_some_iff.1 hg).1
    omega
theorem Apart.grown {w : World} {k c : Nat} {v v' : Value} (h : Apart xs A v) (hs : Sl w w.heap.size k A c xs) (hv : v'.ownBlock = v.ownBlock ∨ ∀ b, v'.ownBlock = some b → w.heap.size ≤ b) : Apart xs A v' := fun hn a ha hb => by
  rcases hv with hv | hv
  · exact h hn a ha (by rw [← hv]; exact hb)
  · have h1 := hv _ hb
    obtain ⟨b, off, e, hb2, _⟩ := hs.mem hn
    rw [ha] at e
    injection e with e
    subst e
    simp only at h1
    omega
theorem Apart.nil (v : Value) : Apart xs none v := fun _ _ h => by cases h
end
end Go.Proofs.YtjceebpafnnffaaDoor

namespace Go.Proofs.YtjceebpafnnffaaDoor
open Go Go.RowKit

/-- Rows of k cells each. -/
def Rwk (k : Nat) (xs : List (List Value)) : Prop := ∀ x, x ∈ xs → x.length = k ∧ ∀ u, u ∈ x → u.oneCell' = true
theorem Rwk.len {k : Nat} {xs : List (List Value)} (h : Rwk k xs) : ∀ x, x ∈ xs → x.length = k := fun x hx => (h x hx).1
theorem Rwk.one {k : Nat} {xs : List (List Value)} (h : Rwk k xs) : ∀ u, u ∈ xs.flatten → u.oneCell' = true := fun u hu => by
  obtain ⟨x, hx, hu⟩ := List.mem_flatten.1 hu
  exact (h x hx).2 u hu
theorem Rwk.sub {k : Nat} {xs ys : List (List Value)} (h : Rwk k xs) (hs : ∀ x, x ∈ ys → x ∈ xs) : Rwk k ys := fun x hx => h x (hs x hx)
theorem Rws.rwk {k : Nat} {xs : List (List Value)} (h : Rws k xs) : Rwk k xs := fun x hx => by
  obtain ⟨l, h1, rfl⟩ := h x hx
  exact ⟨by simpa using h1, fun u hu => by obtain ⟨n, _, rfl⟩ := List.mem_map.1 hu; rfl⟩

/-- The slice value with address A, length xs.length and capacity c holds rows of k cells each; its block lies below B. -/
structure Sv (w : World) (B k : Nat) (A : Option Addr) (c : Nat) (xs : List (List Value)) : Prop where
  le : xs.length ≤ c
  max : c ≤ maxLen
  rows : Rwk k xs
  mem : 0 < xs.length → ∃ b off, A = some ⟨b, off, none⟩ ∧ b < B ∧ ∀ (j : Nat) (u : Value), xs.flatten[j]? = some u → w.cell? ⟨b, off + j, none⟩ = some u

section
variable {w w' : World} {B B' k c n base : Nat} {e : TypeId} {A : Option Addr} {xs : List (List Value)}
theorem Sv.keep (h : Sv w B k A c xs) (hk : ∀ p : Addr, p.block < B → w'.cell? p = w.cell? p) : Sv w' B k A c xs :=
  ⟨h.le, h.max, h.rows, fun hn => by
    obtain ⟨b, off, e, hb, hc⟩ := h.mem hn
    exact ⟨b, off, e, hb, fun j u hu => (hk _ hb).trans (hc j u hu)⟩⟩
theorem Sv.more (h : Sv w B k A c xs) (hB : B ≤ B') : Sv w B' k A c xs :=
  ⟨h.le, h.max, h.rows, fun hn => by
    obtain ⟨b, off, e, hb, hc⟩ := h.mem hn
    exact ⟨b, off, e, by omega, hc⟩⟩
theorem Sv.ext (h : Sv w w.heap.size k A c xs) (hx : Ext w w') : Sv w' w'.heap.size k A c xs := (h.keep fun _ hp => hx.below.cell hp).more hx.size
theorem Sv.nil (w : World) (B k : Nat) : Sv w B k none 0 [] := ⟨by simp, by simp, fun _ h => by simp at h, fun h => absurd h (by simp)⟩
theorem Sv.len (h : Sv w B k A c xs) : xs.length ≤ 9223372036854775807 := by have h1 := h.le; have h2 := h.max; unfold maxLen at h2; omega
theorem Sl.sv (h : Sl w B k A c xs) : Sv w B k A c xs := ⟨h.le, h.max, h.rows.rwk, h.mem⟩
/-- Row i, as a range of cells. -/
theorem Sv.row (h : Sv w B k A c xs) {i : Nat} {x : List Value} (hx : xs[i]? = some x) : ∃ b off, A = some ⟨b, off, none⟩ ∧ b < B ∧ w.rangeAt b (off + i * k) x := by
  obtain ⟨b, off, e, hb, hc⟩ := h.mem (by have := (List.getElem?_eq_some_iff.1 hx).1; omega)
  refine ⟨b, off, e, hb, fun j v hv => ?_⟩
  rw [Nat.add_assoc]
  exact hc _ _ (flatten_at xs h.rows.len i x hx j v hv)
theorem Sv.news {a : Addr} (h : Sv w B k (some a) c xs) : ∀ j u, xs.flatten[j]? = some u → w.cell? (a.add j) = some u := fun j u hu => by
  have hpos : 0 < xs.length := by
    rcases Nat.eq_zero_or_pos xs.length with h0 | h0
    · rw [List.eq_nil_of_length_eq_zero h0] at hu; simp at hu
    · exact h0
  obtain ⟨b, off, e, _, hc⟩ := h.mem hpos
  injection e with e
  subst e
  rw [add_lit]
  exact hc j u hu
/-- An owned row, read. -/
theorem Sv.of_own (h : w.ownsRow base e k (.slice A n c) n xs.flatten) (hr : Rwk k xs) (hn : xs.length = n) : Sv w w.heap.size k A c xs := by
  subst hn
  rcases h.2 with ⟨h1, h2⟩ | ⟨g, cap, cur, hv, hg, hgg, hle, hmax, hsz, htk⟩
  · have hx : xs = [] := List.eq_nil_of_length_eq_zero h2
    subst hx
    injection h1 with _ _ hc
    subst hc
    exact ⟨by simp, by simp, hr, fun h => absurd h (by simp)⟩
  · injection hv with hA _ hc
    subst hA hc
    refine ⟨hle, hmax, hr, fun _ => ⟨g, 0, rfl, (Array.getElem?_eq_some_iff.1 hgg).1, fun j u h3 => ?_⟩⟩
    rw [Nat.zero_add, cell_of_row w g _ cur e (0, 0) hgg]
    rw [← htk, List.getElem?_take] at h3
    split at h3
    · simpa using h3
    · cases h3
end

/-- A function value that answers p of each row of xs, in whatever world near w. -/
structure PredF (P : Program) (g : FuncId) (fst cap : Array Value) (p : List Value → Bool) (xs : List (List Value)) (w : World) : Prop where
  enters : ∀ args w, (callFunc g args).run P w = .ok (.enter g args) w
  call : ∀ x, x ∈ xs → ∀ w', Ext w w' → Calls P g (fst ++ #[.agg x.toArray] ++ cap) w' fun e w'' => e = .returned (.bool (p x)) ∧ Ext w' w''
theorem PredF.ext {P : Program} {g : FuncId} {fst cap : Array Value} {p : List Value → Bool} {xs : List (List Value)} {w w' : World} (h : PredF P g fst cap p xs w) (hx : Ext w w') : PredF P g fst cap p xs w' :=
  ⟨h.enters, fun x hm w2 h2 => h.call x hm w2 (hx.trans h2)⟩
theorem PredF.sub {P : Program} {g : FuncId} {fst cap : Array Value} {p : List Value → Bool} {xs ys : List (List Value)} {w : World} (h : PredF P g fst cap p xs w) (hs : ∀ x, x ∈ ys → x ∈ xs) : PredF P g fst cap p ys w :=
  ⟨h.enters, fun x hm w2 h2 => h.call x (hs x hm) w2 h2⟩
/-- It hands back an owned row of its own that holds xs; what was there is as it was. -/
def RetRow (e : TypeId) (k : Nat) (xs : List (List Value)) (w : World) (en : Ending) (w' : World) : Prop :=
  ∃ A c, en = .returned (.slice A xs.length c) ∧ w'.ownsRow w.heap.size e k (.slice A xs.length c) xs.length xs.flatten ∧ Ext w w'
theorem own_low {w : World} {base k n : Nat} {e : TypeId} {v : Value} {zs : List Value} (h : w.ownsRow base e k v n zs) : ∀ b, v.ownBlock = some b → base ≤ b := fun b hb => by
  rcases h.2 with ⟨rfl, _⟩ | ⟨g, cap, cur, rfl, hg, _⟩
  · simp [Value.ownBlock] at hb
  · simp only [Value.ownBlock, Option.some.injEq] at hb
    omega
theorem take_filter_step {p : List Value → Bool} {xs : List (List Value)} {j : Nat} {x : List Value} (hx : xs[j]? = some x) : (xs.take (j + 1)).filter p = (xs.take j).filter p ++ if p x then [x] else [] := by
  obtain ⟨hi, rfl⟩ := List.getElem?_eq_some_iff.1 hx
  rw [List.take_succ_eq_append_getElem hi, List.filter_append]
  cases h : p xs[j] <;> simp [h]
theorem filter_take_le (p : List Value → Bool) (xs : List (List Value)) (j : Nat) : ((xs.take j).filter p).length ≤ j := by
  have h1 := List.length_filter_le p (xs.take j)
  have h2 := List.length_take_le j xs
  omega
end Go.Proofs.YtjceebpafnnffaaDoor

namespace Go.Proofs.YtjceebpafnnffaaDoor
open Go Go.RowKit

set_option maxHeartbeats 1000000 in
theorem IndexFuncLk (A : Option Addr) (c : Nat) (xs : List (List Value)) (w : World) (hs : Sv w w.heap.size 9 A c xs) (g : FuncId) (fa lb : Array Value) (p : List Value → Bool) (hp : PredF Tryd.prog g fa lb p xs w) :
    Calls Tryd.prog 50 #[.slice A xs.length c, .func (.func g) fa lb] w fun e w' => e = .returned (.int .i64 (idx p xs)) ∧ Ext w w' := by
  have hln := hs.len
  have HS := Lib.hid hs; clear hs
  have eg := hp.enters
  have HP := Lib.hid hp; clear hp
  go_enter Tryd.func50, Tryd.ntmps50
  go_wp2
  go_loopw [8] (fun i wr => ∃ j : Nat, j ≤ xs.length ∧ i = .int .i64 j ∧ (∀ (i : Nat) (x : List Value), i < j → xs[i]? = some x → p x = false) ∧ Ext w wr) (fun i _ => xs.length - (intOf i).toNat)
  case atStart => exact ⟨0, Nat.zero_le _, rfl, fun i x hi => by omega, Ext.refl _⟩
  case round =>
    obtain ⟨j, hj, rfl, hg, hx⟩ := hrel
    have HG := Lib.hid hg; clear hg
    by_cases hlt : j < xs.length
    · obtain ⟨x, hxj⟩ : ∃ x, xs[j]? = some x := ⟨_, List.getElem?_eq_getElem hlt⟩
      have hmem := List.mem_of_getElem? hxj
      have HL := Lib.hid (HS.out.rows x hmem).1
      obtain ⟨b', off, rfl, hbl, hrow⟩ := (HS.out.ext hx).row hxj
      have HR := Lib.hid hrow
      have HC := Lib.hid (HP.out.call _ hmem wr hx)
      clear hmem hrow
      cases hq : p x with
      | true =>
        have HX := Lib.hid (idx_at HG.out hxj hq); clear hxj
        rw [hq] at HC
        go_wp2_with (first | (with_reducible refine wpList_load_mid rfl 52 (.tmp 14) rfl b' (off + j * 9) rfl x _ HR.out Tryd.underlying52 rfl (HL.out ▸ (by kernel_rfl)) ?_) | (go_at_fn g; refine HC.out.mono ?_; rintro e w' ⟨rfl, hy⟩))
        go_ret
        exact ⟨ret_int HX.out.symm, hx.trans hy⟩
      | false =>
        have HX := Lib.hid (fun (i : Nat) (x : List Value) (hi : i < j + 1) (h : xs[i]? = some x) => (show p x = false from by
          rcases Nat.lt_succ_iff_lt_or_eq.1 hi with h1 | rfl
          · exact HG.out i x h1 h
          · rw [h] at hxj; injection hxj with e; rw [e]; exact hq)); clear hxj
        rw [hq] at HC
        go_wp2_with (first | (with_reducible refine wpList_load_mid rfl 52 (.tmp 14) rfl b' (off + j * 9) rfl x _ HR.out Tryd.underlying52 rfl (HL.out ▸ (by kernel_rfl)) ?_) | (go_at_fn g; refine HC.out.mono ?_; rintro e w' ⟨rfl, hy⟩))
        go_roundw
        case rel => exact ⟨j + 1, by omega, by go_num, HX.out, hx.trans hy⟩
        case measure => simp [intOf]; omega
    · obtain rfl : j = xs.length := by omega
      go_wp2
      go_ret
      exact ⟨ret_int (idx_no fun i x hx => HG.out i x (List.getElem?_eq_some_iff.1 hx).1 hx).symm, hx⟩
end Go.Proofs.YtjceebpafnnffaaDoor

namespace Go.Proofs.YtjceebpafnnffaaDoor
open Go Go.RowKit

structure Sp where
  tick : Int
  clock : Int
  site : Int
  seq : Int
  deriving DecidableEq
def validS (s : Sp) : Bool := decide ((0 ≤ s.tick ∧ s.tick ≤ 4000) ∧ (1 ≤ s.clock ∧ s.clock ≤ 1000000) ∧ (1 ≤ s.site ∧ s.site ≤ 8) ∧ (1 ≤ s.seq ∧ s.seq ≤ 1000))
theorem validS_iff (s : Sp) : validS s = true ↔ ((0 ≤ s.tick ∧ s.tick ≤ 4000) ∧ (1 ≤ s.clock ∧ s.clock ≤ 1000000) ∧ (1 ≤ s.site ∧ s.site ≤ 8) ∧ (1 ≤ s.seq ∧ s.seq ≤ 1000)) := by simp [validS]
theorem validS_no (s : Sp) (h : ¬ ((0 ≤ s.tick ∧ s.tick ≤ 4000) ∧ (1 ≤ s.clock ∧ s.clock ≤ 1000000) ∧ (1 ≤ s.site ∧ s.site ≤ 8) ∧ (1 ≤ s.seq ∧ s.seq ≤ 1000))) : validS s = false := by
  unfold validS; exact decide_eq_false h

set_option maxHeartbeats 1000000 in
theorem parts_any (s : Sp) (w : World) :
    Calls Tryd.prog 94 #[.agg #[.int .i64 s.tick, .int .i64 s.clock, .int .i64 s.site, .int .i64 s.seq]] w fun e w' => e = .returned (.agg #[.int .i64 s.tick, .int .i64 s.clock, .int .i64 s.site, .int .i64 s.seq]) ∧ Ext w w' := by
  go_enter Tryd.func94, Tryd.ntmps94
  go_wp2
  refine bodyPost_ret (v := .agg #[.int .i64 s.tick, .int .i64 s.clock, .int .i64 s.site, .int .i64 s.seq]) ?_ rfl ?_
  · simp (maxDischargeDepth := 9) only [results, Tryd.results94]
    first
      | (go_simp; done)
      | (go_simp; simp; done)
      | (simp (maxDischargeDepth := 9) [go_sem, *]; done)
      | (simp (maxDischargeDepth := 9) [go_sem, *]; simp)
  · exact ⟨rfl, (by repeat (first | with_reducible exact Ext.refl _ | with_reducible assumption | with_reducible refine Ext.alloc ?_ _ | with_reducible refine Ext.drew ?_ | (with_reducible refine Ext.setCell ?_ ?_ _; rotate_left; focus (first | (simp; done) | (simp; omega) | omega)) | (with_reducible refine Ext.setRow ?_ ?_ _; rotate_left; focus (first | (simp; done) | (simp; omega) | omega)) | with_reducible refine Ext.trans ?_ (by with_reducible assumption)))⟩

def okTo (s : Sp) : Nat → Prop
  | 0 => True
  | 1 => (0 ≤ s.tick ∧ s.tick ≤ 4000)
  | 2 => (0 ≤ s.tick ∧ s.tick ≤ 4000) ∧ (1 ≤ s.clock ∧ s.clock ≤ 1000000)
  | 3 => (0 ≤ s.tick ∧ s.tick ≤ 4000) ∧ (1 ≤ s.clock ∧ s.clock ≤ 1000000) ∧ (1 ≤ s.site ∧ s.site ≤ 8)
  | _ => (0 ≤ s.tick ∧ s.tick ≤ 4000) ∧ (1 ≤ s.clock ∧ s.clock ≤ 1000000) ∧ (1 ≤ s.site ∧ s.site ≤ 8) ∧ (1 ≤ s.seq ∧ s.seq ≤ 1000)
theorem ret_inv {a b : Bool} (h : a = b) : Ending.returned (.bool a) = .returned (.bool b) := by rw [h]

set_option maxHeartbeats 2000000 in
theorem Valid_any (s : Sp) (w : World) :
    Calls Tryd.prog 84 #[.agg #[.int .i64 s.tick, .int .i64 s.clock, .int .i64 s.site, .int .i64 s.seq]] w fun e w' => e = .returned (.bool (validS s)) ∧ Ext w w' := by
  have i0 : ∀ w, (Instr.index 102 (.agg #[.int .i64 s.tick, .int .i64 s.clock, .int .i64 s.site, .int .i64 s.seq]) (.int .i64 0)).run Tryd.prog w = .ok (.int .i64 s.tick) w := fun _ => by kernel_rfl
  have i1 : ∀ w, (Instr.index 102 (.agg #[.int .i64 s.tick, .int .i64 s.clock, .int .i64 s.site, .int .i64 s.seq]) (.int .i64 1)).run Tryd.prog w = .ok (.int .i64 s.clock) w := fun _ => by kernel_rfl
  have i2 : ∀ w, (Instr.index 102 (.agg #[.int .i64 s.tick, .int .i64 s.clock, .int .i64 s.site, .int .i64 s.seq]) (.int .i64 2)).run Tryd.prog w = .ok (.int .i64 s.site) w := fun _ => by kernel_rfl
  have i3 : ∀ w, (Instr.index 102 (.agg #[.int .i64 s.tick, .int .i64 s.clock, .int .i64 s.site, .int .i64 s.seq]) (.int .i64 3)).run Tryd.prog w = .ok (.int .i64 s.seq) w := fun _ => by kernel_rfl
  go_enter Tryd.func84, Tryd.ntmps84
  go_wp2_with (first | (go_at_call 94; refine (parts_any s _).mono ?_; rintro e wx ⟨rfl, xx⟩; obtain ⟨xc, xf, xl, xe, xn, xm⟩ := xx.look; have xz := xx.size; (try simp only [World.size_alloc_] at xz); (try (have qh := xx.one (b := w.heap.size) (by (try simp only [World.size_alloc_]); omega); obtain ⟨qc, qf, ql, qe, qn, qm⟩ := qh)); (try (have qh := xx.one (b := w.heap.size + 1) (by (try simp only [World.size_alloc_]); omega); obtain ⟨qc, qf, ql, qe, qn, qm⟩ := qh)); (try (have qh := xx.one (b := w.heap.size + 1 + 1) (by (try simp only [World.size_alloc_]); omega); obtain ⟨qc, qf, ql, qe, qn, qm⟩ := qh)); (try (have qh := xx.one (b := w.heap.size + 1 + 1 + 1) (by (try simp only [World.size_alloc_]); omega); obtain ⟨qc, qf, ql, qe, qn, qm⟩ := qh))))
  go_loop [11] (fun i => ∃ k : Nat, k ≤ 4 ∧ i = .int .i64 k ∧ okTo s k) (fun i => 4 - (intOf i).toNat)
  case atStart => exact ⟨0, by omega, rfl, trivial⟩
  case round =>
    obtain ⟨k, hk, rfl, ho⟩ := hrel
    obtain rfl | rfl | rfl | rfl | rfl : k = 0 ∨ k = 1 ∨ k = 2 ∨ k = 3 ∨ k = 4 := by omega
    all_goals have HO := Lib.hid ho; clear ho
    · go_wp2
      all_goals first
        | (go_round
           case rel => exact ⟨1, by omega, rfl, by have h := HO.out; simp only [okTo] at h ⊢; omega⟩
           case measure => simp [intOf])
        | (go_ret
           exact ⟨ret_bool (validS_no _ (by omega)).symm, (by repeat (first | with_reducible exact Ext.refl _ | with_reducible assumption | with_reducible refine Ext.alloc ?_ _ | with_reducible refine Ext.drew ?_ | (with_reducible refine Ext.setCell ?_ ?_ _; rotate_left; focus (first | (simp; done) | (simp; omega) | omega)) | (with_reducible refine Ext.setRow ?_ ?_ _; rotate_left; focus (first | (simp; done) | (simp; omega) | omega)) | with_reducible refine Ext.trans ?_ (by with_reducible assumption)))⟩)
    · go_wp2
      all_goals first
        | (go_round
           case rel => exact ⟨2, by omega, rfl, by have h := HO.out; simp only [okTo] at h ⊢; omega⟩
           case measure => simp [intOf])
        | (go_ret
           exact ⟨ret_bool (validS_no _ (by omega)).symm, (by repeat (first | with_reducible exact Ext.refl _ | with_reducible assumption | with_reducible refine Ext.alloc ?_ _ | with_reducible refine Ext.drew ?_ | (with_reducible refine Ext.setCell ?_ ?_ _; rotate_left; focus (first | (simp; done) | (simp; omega) | omega)) | (with_reducible refine Ext.setRow ?_ ?_ _; rotate_left; focus (first | (simp; done) | (simp; omega) | omega)) | with_reducible refine Ext.trans ?_ (by with_reducible assumption)))⟩)
    · go_wp2
      all_goals first
        | (go_round
           case rel => exact ⟨3, by omega, rfl, by have h := HO.out; simp only [okTo] at h ⊢; omega⟩
           case measure => simp [intOf])
        | (go_ret
           exact ⟨ret_bool (validS_no _ (by omega)).symm, (by repeat (first | with_reducible exact Ext.refl _ | with_reducible assumption | with_reducible refine Ext.alloc ?_ _ | with_reducible refine Ext.drew ?_ | (with_reducible refine Ext.setCell ?_ ?_ _; rotate_left; focus (first | (simp; done) | (simp; omega) | omega)) | (with_reducible refine Ext.setRow ?_ ?_ _; rotate_left; focus (first | (simp; done) | (simp; omega) | omega)) | with_reducible refine Ext.trans ?_ (by with_reducible assumption)))⟩)
    · go_wp2
      all_goals first
        | (go_round
           case rel => exact ⟨4, by omega, rfl, by have h := HO.out; simp only [okTo] at h ⊢; omega⟩
           case measure => simp [intOf])
        | (go_ret
           exact ⟨ret_bool (validS_no _ (by omega)).symm, (by repeat (first | with_reducible exact Ext.refl _ | with_reducible assumption | with_reducible refine Ext.alloc ?_ _ | with_reducible refine Ext.drew ?_ | (with_reducible refine Ext.setCell ?_ ?_ _; rotate_left; focus (first | (simp; done) | (simp; omega) | omega)) | (with_reducible refine Ext.setRow ?_ ?_ _; rotate_left; focus (first | (simp; done) | (simp; omega) | omega)) | with_reducible refine Ext.trans ?_ (by with_reducible assumption)))⟩)
    · have hv := (validS_iff s).2 HO.out
      have HV := Lib.hid hv; clear hv
      go_wp2
      go_ret
      exact ⟨ret_bool HV.out.symm, (by repeat (first | with_reducible exact Ext.refl _ | with_reducible assumption | with_reducible refine Ext.alloc ?_ _ | with_reducible refine Ext.drew ?_ | (with_reducible refine Ext.setCell ?_ ?_ _; rotate_left; focus (first | (simp; done) | (simp; omega) | omega)) | (with_reducible refine Ext.setRow ?_ ?_ _; rotate_left; focus (first | (simp; done) | (simp; omega) | omega)) | with_reducible refine Ext.trans ?_ (by with_reducible assumption)))⟩

set_option maxHeartbeats 1000000 in
theorem within24_any (n lo hi : Int) (w : World) :
    Calls Tryd.prog 92 #[.int .i64 n, .int .i64 lo, .int .i64 hi] w fun e w' => e = .returned (.bool (decide (lo ≤ n ∧ n ≤ hi))) ∧ Ext w w' := by
  go_enter Tryd.func92, Tryd.ntmps92
  go_wp2
  all_goals
    go_ret
    refine ⟨ret_bool ?_, (by repeat (first | with_reducible exact Ext.refl _ | with_reducible assumption | with_reducible refine Ext.alloc ?_ _ | with_reducible refine Ext.drew ?_ | (with_reducible refine Ext.setCell ?_ ?_ _; rotate_left; focus (first | (simp; done) | (simp; omega) | omega)) | (with_reducible refine Ext.setRow ?_ ?_ _; rotate_left; focus (first | (simp; done) | (simp; omega) | omega)) | with_reducible refine Ext.trans ?_ (by with_reducible assumption)))⟩
    rw [Bool.eq_iff_iff]
    simp
    try omega
theorem validS_and (s : Sp) : (decide (0 ≤ s.tick ∧ s.tick ≤ 4000) && (decide (1 ≤ s.clock ∧ s.clock ≤ 1000000) && (decide (1 ≤ s.site ∧ s.site ≤ 8) && decide (1 ≤ s.seq ∧ s.seq ≤ 1000)))) = validS s := by
  rw [Bool.eq_iff_iff]; simp [validS]
set_option maxHeartbeats 1000000 in
theorem refValid24_any (s : Sp) (w : World) :
    Calls Tryd.prog 80 #[.agg #[.int .i64 s.tick, .int .i64 s.clock, .int .i64 s.site, .int .i64 s.seq]] w fun e w' => e = .returned (.bool (validS s)) ∧ Ext w w' := by
  rw [← validS_and]
  generalize h0 : decide (0 ≤ s.tick ∧ s.tick ≤ 4000) = b0
  generalize h1 : decide (1 ≤ s.clock ∧ s.clock ≤ 1000000) = b1
  generalize h2 : decide (1 ≤ s.site ∧ s.site ≤ 8) = b2
  generalize h3 : decide (1 ≤ s.seq ∧ s.seq ≤ 1000) = b3
  have c0 := fun w => within24_any s.tick 0 4000 w
  have c1 := fun w => within24_any s.clock 1 1000000 w
  have c2 := fun w => within24_any s.site 1 8 w
  have c3 := fun w => within24_any s.seq 1 1000 w
  rw [h0] at c0; rw [h1] at c1; rw [h2] at c2; rw [h3] at c3
  have C0 := Lib.hid c0; have C1 := Lib.hid c1; have C2 := Lib.hid c2; have C3 := Lib.hid c3
  clear c0 c1 c2 c3 h0 h1 h2 h3
  go_enter Tryd.func80, Tryd.ntmps80
  go_wp2_with fail
  refine (C0.out _).mono ?_; rintro e wx ⟨rfl, xx⟩; obtain ⟨xc, xf, xl, xe, xn, xm⟩ := xx.look; have xz := xx.size; (try simp only [World.size_alloc_] at xz); (try (have qh := xx.one (b := w.heap.size) (by (try simp only [World.size_alloc_]); omega); obtain ⟨qc, qf, ql, qe, qn, qm⟩ := qh)); (try (have qh := xx.one (b := w.heap.size + 1) (by (try simp only [World.size_alloc_]); omega); obtain ⟨qc, qf, ql, qe, qn, qm⟩ := qh)); (try (have qh := xx.one (b := w.heap.size + 1 + 1) (by (try simp only [World.size_alloc_]); omega); obtain ⟨qc, qf, ql, qe, qn, qm⟩ := qh)); (try (have qh := xx.one (b := w.heap.size + 1 + 1 + 1) (by (try simp only [World.size_alloc_]); omega); obtain ⟨qc, qf, ql, qe, qn, qm⟩ := qh))
  cases b0
  · go_wp2
    go_ret
    exact ⟨rfl, (by repeat (first | with_reducible exact Ext.refl _ | with_reducible assumption | with_reducible refine Ext.alloc ?_ _ | with_reducible refine Ext.drew ?_ | (with_reducible refine Ext.setCell ?_ ?_ _; rotate_left; focus (first | (simp; done) | (simp; omega) | omega)) | (with_reducible refine Ext.setRow ?_ ?_ _; rotate_left; focus (first | (simp; done) | (simp; omega) | omega)) | with_reducible refine Ext.trans ?_ (by with_reducible assumption)))⟩
  go_wp2_with fail
  refine (C1.out _).mono ?_; rintro e wx ⟨rfl, xx⟩; obtain ⟨xc, xf, xl, xe, xn, xm⟩ := xx.look; have xz := xx.size; (try simp only [World.size_alloc_, World.size_setCell_] at xz); (try (have qh := xx.one (b := w.heap.size) (by (try simp only [World.size_alloc_, World.size_setCell_]); omega); obtain ⟨qc, qf, ql, qe, qn, qm⟩ := qh)); (try (have qh := xx.one (b := w.heap.size + 1) (by (try simp only [World.size_alloc_, World.size_setCell_]); omega); obtain ⟨qc, qf, ql, qe, qn, qm⟩ := qh)); (try (have qh := xx.one (b := w.heap.size + 1 + 1) (by (try simp only [World.size_alloc_, World.size_setCell_]); omega); obtain ⟨qc, qf, ql, qe, qn, qm⟩ := qh)); (try (have qh := xx.one (b := w.heap.size + 1 + 1 + 1) (by (try simp only [World.size_alloc_, World.size_setCell_]); omega); obtain ⟨qc, qf, ql, qe, qn, qm⟩ := qh))
  cases b1
  · go_wp2
    go_ret
    exact ⟨rfl, (by repeat (first | with_reducible exact Ext.refl _ | with_reducible assumption | with_reducible refine Ext.alloc ?_ _ | with_reducible refine Ext.drew ?_ | (with_reducible refine Ext.setCell ?_ ?_ _; rotate_left; focus (first | (simp; done) | (simp; omega) | omega)) | (with_reducible refine Ext.setRow ?_ ?_ _; rotate_left; focus (first | (simp; done) | (simp; omega) | omega)) | with_reducible refine Ext.trans ?_ (by with_reducible assumption)))⟩
  go_wp2_with fail
  refine (C2.out _).mono ?_; rintro e wx ⟨rfl, xx⟩; obtain ⟨xc, xf, xl, xe, xn, xm⟩ := xx.look; have xz := xx.size; (try simp only [World.size_alloc_, World.size_setCell_] at xz); (try (have qh := xx.one (b := w.heap.size) (by (try simp only [World.size_alloc_, World.size_setCell_]); omega); obtain ⟨qc, qf, ql, qe, qn, qm⟩ := qh)); (try (have qh := xx.one (b := w.heap.size + 1) (by (try simp only [World.size_alloc_, World.size_setCell_]); omega); obtain ⟨qc, qf, ql, qe, qn, qm⟩ := qh)); (try (have qh := xx.one (b := w.heap.size + 1 + 1) (by (try simp only [World.size_alloc_, World.size_setCell_]); omega); obtain ⟨qc, qf, ql, qe, qn, qm⟩ := qh)); (try (have qh := xx.one (b := w.heap.size + 1 + 1 + 1) (by (try simp only [World.size_alloc_, World.size_setCell_]); omega); obtain ⟨qc, qf, ql, qe, qn, qm⟩ := qh))
  cases b2
  · go_wp2
    go_ret
    exact ⟨rfl, (by repeat (first | with_reducible exact Ext.refl _ | with_reducible assumption | with_reducible refine Ext.alloc ?_ _ | with_reducible refine Ext.drew ?_ | (with_reducible refine Ext.setCell ?_ ?_ _; rotate_left; focus (first | (simp; done) | (simp; omega) | omega)) | (with_reducible refine Ext.setRow ?_ ?_ _; rotate_left; focus (first | (simp; done) | (simp; omega) | omega)) | with_reducible refine Ext.trans ?_ (by with_reducible assumption)))⟩
  go_wp2_with fail
  refine (C3.out _).mono ?_; rintro e wx ⟨rfl, xx⟩; obtain ⟨xc, xf, xl, xe, xn, xm⟩ := xx.look; have xz := xx.size; (try simp only [World.size_alloc_, World.size_setCell_] at xz); (try (have qh := xx.one (b := w.heap.size) (by (try simp only [World.size_alloc_, World.size_setCell_]); omega); obtain ⟨qc, qf, ql, qe, qn, qm⟩ := qh)); (try (have qh := xx.one (b := w.heap.size + 1) (by (try simp only [World.size_alloc_, World.size_setCell_]); omega); obtain ⟨qc, qf, ql, qe, qn, qm⟩ := qh)); (try (have qh := xx.one (b := w.heap.size + 1 + 1) (by (try simp only [World.size_alloc_, World.size_setCell_]); omega); obtain ⟨qc, qf, ql, qe, qn, qm⟩ := qh)); (try (have qh := xx.one (b := w.heap.size + 1 + 1 + 1) (by (try simp only [World.size_alloc_, World.size_setCell_]); omega); obtain ⟨qc, qf, ql, qe, qn, qm⟩ := qh))
  go_wp2
  go_ret
  exact ⟨by simp, (by repeat (first | with_reducible exact Ext.refl _ | with_reducible assumption | with_reducible refine Ext.alloc ?_ _ | with_reducible refine Ext.drew ?_ | (with_reducible refine Ext.setCell ?_ ?_ _; rotate_left; focus (first | (simp; done) | (simp; omega) | omega)) | (with_reducible refine Ext.setRow ?_ ?_ _; rotate_left; focus (first | (simp; done) | (simp; omega) | omega)) | with_reducible refine Ext.trans ?_ (by with_reducible assumption)))⟩
end Go.Proofs.YtjceebpafnnffaaDoor

namespace Go.Proofs.YtjceebpafnnffaaDoor
open Go Go.RowKit

structure Ed where
  st : Sp
  kind : Int
  box : Bx
  at_ : Pt
  turn : Int
  cell : Int
  size : Int
  deriving DecidableEq
def rowF : Nat → Int
  | 0 => 0
  | 1 => 9
  | 2 => 26
  | 3 => 13
  | 4 => 7
  | 5 => 26
  | 6 => 16
  | 7 => 17
  | _ => 16
/-- The table of the kinds is there. -/
structure RowsIn (w : World) : Prop where
  at_ : ∀ i, i < 9 → w.cell? ⟨1, 2 * i + 1, none⟩ = some (.int .i64 (rowF i))
  lt : 1 < w.heap.size
theorem RowsIn.ext {w w' : World} (h : RowsIn w) (hx : Ext w w') : RowsIn w' := ⟨fun i hi => (hx.cell (p := ⟨1, 2 * i + 1, none⟩) h.lt).trans (h.at_ i hi), Nat.lt_of_lt_of_le h.lt hx.size⟩
def usesF (k f : Int) : Bool :=
  if f = 1 then k == 1 || k == 3 || k == 4 || k == 7 else if f = 2 then k == 2 || k == 4 || k == 5 else if f = 4 then k == 3 || k == 4 else if f = 8 then k == 1 || k == 2 || k == 3 || k == 5 else k == 2 || k == 5 || k == 6 || k == 7 || k == 8

set_option maxHeartbeats 1000000 in
theorem withinE_any (n lo hi : Int) (w : World) :
    Calls Tryd.prog 69 #[.int .i64 n, .int .i64 lo, .int .i64 hi] w fun e w' => e = .returned (.bool (decide (lo ≤ n ∧ n ≤ hi))) ∧ Ext w w' := by
  go_enter Tryd.func69, Tryd.ntmps69
  go_wp2
  all_goals
    go_ret
    refine ⟨ret_bool ?_, (by repeat (first | with_reducible exact Ext.refl _ | with_reducible assumption | with_reducible refine Ext.alloc ?_ _ | with_reducible refine Ext.drew ?_ | (with_reducible refine Ext.setCell ?_ ?_ _; rotate_left; focus (first | (simp; done) | (simp; omega) | omega)) | (with_reducible refine Ext.setRow ?_ ?_ _; rotate_left; focus (first | (simp; done) | (simp; omega) | omega)) | with_reducible refine Ext.trans ?_ (by with_reducible assumption)))⟩
    rw [Bool.eq_iff_iff]
    simp
    try omega
theorem withinE_is (n lo hi : Int) (b : Bool) (hb : decide (lo ≤ n ∧ n ≤ hi) = b) (w : World) :
    Calls Tryd.prog 69 #[.int .i64 n, .int .i64 lo, .int .i64 hi] w fun e w' => e = .returned (.bool b) ∧ Ext w w' := hb ▸ withinE_any n lo hi w
set_option maxHeartbeats 2000000 in
theorem uses_any (k f : Int) (hk : 0 ≤ k ∧ k ≤ 8) (hf : f = 1 ∨ f = 2 ∨ f = 4 ∨ f = 8 ∨ f = 16) (w : World) (hR : RowsIn w) :
    Calls Tryd.prog 74 #[.int .i64 k, .int .i64 f] w fun e w' => e = .returned (.bool (usesF k f)) ∧ Ext w w' := by
  obtain ⟨i, rfl⟩ : ∃ i : Nat, k = i := ⟨k.toNat, by omega⟩
  obtain rfl | rfl | rfl | rfl | rfl | rfl | rfl | rfl | rfl : i = 0 ∨ i = 1 ∨ i = 2 ∨ i = 3 ∨ i = 4 ∨ i = 5 ∨ i = 6 ∨ i = 7 ∨ i = 8 := by omega
  · have hc := hR.at_ 0 (by omega)
    simp only [rowF, Nat.reduceMul, Nat.reduceAdd] at hc
    clear hR hk
    rcases hf with rfl | rfl | rfl | rfl | rfl
    all_goals
      go_enter Tryd.func74, Tryd.ntmps74
      go_wp2
      go_ret
      exact ⟨ret_bool (by decide), (by repeat (first | with_reducible exact Ext.refl _ | with_reducible assumption | with_reducible refine Ext.alloc ?_ _ | with_reducible refine Ext.drew ?_ | (with_reducible refine Ext.setCell ?_ ?_ _; rotate_left; focus (first | (simp; done) | (simp; omega) | omega)) | (with_reducible refine Ext.setRow ?_ ?_ _; rotate_left; focus (first | (simp; done) | (simp; omega) | omega)) | with_reducible refine Ext.trans ?_ (by with_reducible assumption)))⟩
  · have hc := hR.at_ 1 (by omega)
    simp only [rowF, Nat.reduceMul, Nat.reduceAdd] at hc
    clear hR hk
    rcases hf with rfl | rfl | rfl | rfl | rfl
    all_goals
      go_enter Tryd.func74, Tryd.ntmps74
      go_wp2
      go_ret
      exact ⟨ret_bool (by decide), (by repeat (first | with_reducible exact Ext.refl _ | with_reducible assumption | with_reducible refine Ext.alloc ?_ _ | with_reducible refine Ext.drew ?_ | (with_reducible refine Ext.setCell ?_ ?_ _; rotate_left; focus (first | (simp; done) | (simp; omega) | omega)) | (with_reducible refine Ext.setRow ?_ ?_ _; rotate_left; focus (first | (simp; done) | (simp; omega) | omega)) | with_reducible refine Ext.trans ?_ (by with_reducible assumption)))⟩
  · have hc := hR.at_ 2 (by omega)
    simp only [rowF, Nat.reduceMul, Nat.reduceAdd] at hc
    clear hR hk
    rcases hf with rfl | rfl | rfl | rfl | rfl
    all_goals
      go_enter Tryd.func74, Tryd.ntmps74
      go_wp2
      go_ret
      exact ⟨ret_bool (by decide), (by repeat (first | with_reducible exact Ext.refl _ | with_reducible assumption | with_reducible refine Ext.alloc ?_ _ | with_reducible refine Ext.drew ?_ | (with_reducible refine Ext.setCell ?_ ?_ _; rotate_left; focus (first | (simp; done) | (simp; omega) | omega)) | (with_reducible refine Ext.setRow ?_ ?_ _; rotate_left; focus (first | (simp; done) | (simp; omega) | omega)) | with_reducible refine Ext.trans ?_ (by with_reducible assumption)))⟩
  · have hc := hR.at_ 3 (by omega)
    simp only [rowF, Nat.reduceMul, Nat.reduceAdd] at hc
    clear hR hk
    rcases hf with rfl | rfl | rfl | rfl | rfl
    all_goals
      go_enter Tryd.func74, Tryd.ntmps74
      go_wp2
      go_ret
      exact ⟨ret_bool (by decide), (by repeat (first | with_reducible exact Ext.refl _ | with_reducible assumption | with_reducible refine Ext.alloc ?_ _ | with_reducible refine Ext.drew ?_ | (with_reducible refine Ext.setCell ?_ ?_ _; rotate_left; focus (first | (simp; done) | (simp; omega) | omega)) | (with_reducible refine Ext.setRow ?_ ?_ _; rotate_left; focus (first | (simp; done) | (simp; omega) | omega)) | with_reducible refine Ext.trans ?_ (by with_reducible assumption)))⟩
  · have hc := hR.at_ 4 (by omega)
    simp only [rowF, Nat.reduceMul, Nat.reduceAdd] at hc
    clear hR hk
    rcases hf with rfl | rfl | rfl | rfl | rfl
    all_goals
      go_enter Tryd.func74, Tryd.ntmps74
      go_wp2
      go_ret
      exact ⟨ret_bool (by decide), (by repeat (first | with_reducible exact Ext.refl _ | with_reducible assumption | with_reducible refine Ext.alloc ?_ _ | with_reducible refine Ext.drew ?_ | (with_reducible refine Ext.setCell ?_ ?_ _; rotate_left; focus (first | (simp; done) | (simp; omega) | omega)) | (with_reducible refine Ext.setRow ?_ ?_ _; rotate_left; focus (first | (simp; done) | (simp; omega) | omega)) | with_reducible refine Ext.trans ?_ (by with_reducible assumption)))⟩
  · have hc := hR.at_ 5 (by omega)
    simp only [rowF, Nat.reduceMul, Nat.reduceAdd] at hc
    clear hR hk
    rcases hf with rfl | rfl | rfl | rfl | rfl
    all_goals
      go_enter Tryd.func74, Tryd.ntmps74
      go_wp2
      go_ret
      exact ⟨ret_bool (by decide), (by repeat (first | with_reducible exact Ext.refl _ | with_reducible assumption | with_reducible refine Ext.alloc ?_ _ | with_reducible refine Ext.drew ?_ | (with_reducible refine Ext.setCell ?_ ?_ _; rotate_left; focus (first | (simp; done) | (simp; omega) | omega)) | (with_reducible refine Ext.setRow ?_ ?_ _; rotate_left; focus (first | (simp; done) | (simp; omega) | omega)) | with_reducible refine Ext.trans ?_ (by with_reducible assumption)))⟩
  · have hc := hR.at_ 6 (by omega)
    simp only [rowF, Nat.reduceMul, Nat.reduceAdd] at hc
    clear hR hk
    rcases hf with rfl | rfl | rfl | rfl | rfl
    all_goals
      go_enter Tryd.func74, Tryd.ntmps74
      go_wp2
      go_ret
      exact ⟨ret_bool (by decide), (by repeat (first | with_reducible exact Ext.refl _ | with_reducible assumption | with_reducible refine Ext.alloc ?_ _ | with_reducible refine Ext.drew ?_ | (with_reducible refine Ext.setCell ?_ ?_ _; rotate_left; focus (first | (simp; done) | (simp; omega) | omega)) | (with_reducible refine Ext.setRow ?_ ?_ _; rotate_left; focus (first | (simp; done) | (simp; omega) | omega)) | with_reducible refine Ext.trans ?_ (by with_reducible assumption)))⟩
  · have hc := hR.at_ 7 (by omega)
    simp only [rowF, Nat.reduceMul, Nat.reduceAdd] at hc
    clear hR hk
    rcases hf with rfl | rfl | rfl | rfl | rfl
    all_goals
      go_enter Tryd.func74, Tryd.ntmps74
      go_wp2
      go_ret
      exact ⟨ret_bool (by decide), (by repeat (first | with_reducible exact Ext.refl _ | with_reducible assumption | with_reducible refine Ext.alloc ?_ _ | with_reducible refine Ext.drew ?_ | (with_reducible refine Ext.setCell ?_ ?_ _; rotate_left; focus (first | (simp; done) | (simp; omega) | omega)) | (with_reducible refine Ext.setRow ?_ ?_ _; rotate_left; focus (first | (simp; done) | (simp; omega) | omega)) | with_reducible refine Ext.trans ?_ (by with_reducible assumption)))⟩
  · have hc := hR.at_ 8 (by omega)
    simp only [rowF, Nat.reduceMul, Nat.reduceAdd] at hc
    clear hR hk
    rcases hf with rfl | rfl | rfl | rfl | rfl
    all_goals
      go_enter Tryd.func74, Tryd.ntmps74
      go_wp2
      go_ret
      exact ⟨ret_bool (by decide), (by repeat (first | with_reducible exact Ext.refl _ | with_reducible assumption | with_reducible refine Ext.alloc ?_ _ | with_reducible refine Ext.drew ?_ | (with_reducible refine Ext.setCell ?_ ?_ _; rotate_left; focus (first | (simp; done) | (simp; omega) | omega)) | (with_reducible refine Ext.setRow ?_ ?_ _; rotate_left; focus (first | (simp; done) | (simp; omega) | omega)) | with_reducible refine Ext.trans ?_ (by with_reducible assumption)))⟩
theorem uses_is (k f : Int) (b : Bool) (hk : 0 ≤ k ∧ k ≤ 8) (hf : f = 1 ∨ f = 2 ∨ f = 4 ∨ f = 8 ∨ f = 16) (hb : usesF k f = b) (w : World) (hR : RowsIn w) :
    Calls Tryd.prog 74 #[.int .i64 k, .int .i64 f] w fun e w' => e = .returned (.bool b) ∧ Ext w w' := hb ▸ uses_any k f hk hf w hR
def formedE (x : Ed) : Bool := validS x.st && (decide (1 ≤ x.kind ∧ x.kind ≤ 8) && ((usesF x.kind 1 || decide (x.box = zeroBx)) && ((usesF x.kind 2 || decide (x.at_ = zeroPt)) && ((usesF x.kind 4 || decide (x.turn = 0)) && ((usesF x.kind 8 || decide (x.cell = 0)) && (usesF x.kind 16 || decide (x.size = 0)))))))
theorem eqBx_run (a b : Bx) (w : World) : (binOp .eql 28 (.agg #[.int .i64 a.lo.x, .int .i64 a.lo.y, .int .i64 a.lo.z, .int .i64 a.hi.x, .int .i64 a.hi.y, .int .i64 a.hi.z]) (.agg #[.int .i64 b.lo.x, .int .i64 b.lo.y, .int .i64 b.lo.z, .int .i64 b.hi.x, .int .i64 b.hi.y, .int .i64 b.hi.z])).run Tryd.prog w = .ok (.bool (decide (a = b))) w := by
  obtain ⟨⟨a1, a2, a3⟩, ⟨a4, a5, a6⟩⟩ := a
  obtain ⟨⟨b1, b2, b3⟩, ⟨b4, b5, b6⟩⟩ := b
  simp [go_sem]
  by_cases h1 : a1 = b1 <;> by_cases h2 : a2 = b2 <;> by_cases h3 : a3 = b3 <;> by_cases h4 : a4 = b4 <;> by_cases h5 : a5 = b5 <;> by_cases h6 : a6 = b6 <;> simp [h1, h2, h3, h4, h5, h6]
theorem eqPt_run (a b : Pt) (w : World) : (binOp .eql 26 (.agg #[.int .i64 a.x, .int .i64 a.y, .int .i64 a.z]) (.agg #[.int .i64 b.x, .int .i64 b.y, .int .i64 b.z])).run Tryd.prog w = .ok (.bool (decide (a = b))) w := by
  obtain ⟨a1, a2, a3⟩ := a
  obtain ⟨b1, b2, b3⟩ := b
  simp [go_sem]
  by_cases h1 : a1 = b1 <;> by_cases h2 : a2 = b2 <;> by_cases h3 : a3 = b3 <;> simp [h1, h2, h3]
theorem formedE_def (x : Ed) : formedE x = (validS x.st && (decide (1 ≤ x.kind ∧ x.kind ≤ 8) && ((usesF x.kind 1 || decide (x.box = zeroBx)) && ((usesF x.kind 2 || decide (x.at_ = zeroPt)) && ((usesF x.kind 4 || decide (x.turn = 0)) && ((usesF x.kind 8 || decide (x.cell = 0)) && (usesF x.kind 16 || decide (x.size = 0)))))))) := rfl
set_option maxHeartbeats 4000000 in
theorem Formed_bad (x : Ed) (w : World) (h : validS x.st = false ∨ ¬ (1 ≤ x.kind ∧ x.kind ≤ 8)) :
    Calls Tryd.prog 70 #[.agg #[.int .i64 x.st.tick, .int .i64 x.st.clock, .int .i64 x.st.site, .int .i64 x.st.seq, .int .i64 x.kind, .int .i64 x.box.lo.x, .int .i64 x.box.lo.y, .int .i64 x.box.lo.z, .int .i64 x.box.hi.x, .int .i64 x.box.hi.y, .int .i64 x.box.hi.z, .int .i64 x.at_.x, .int .i64 x.at_.y, .int .i64 x.at_.z, .int .i64 x.turn, .int .i64 x.cell, .int .i64 x.size]] w fun e w' => e = .returned (.bool false) ∧ Ext w w' := by
  have hv := fun w => Valid_any x.st w
  cases hq : validS x.st
  all_goals
    rw [hq] at hv h
    have HV := Lib.hid hv
    clear hv hq
  · clear h
    go_enter Tryd.func70, Tryd.ntmps70
    go_wp2_with (first | (go_at_call 84; refine (HV.out _).mono ?_; rintro e wx ⟨rfl, xx⟩; obtain ⟨xc, xf, xl, xe, xn, xm⟩ := xx.look; have xz := xx.size; (try simp only [World.size_alloc_] at xz); (try (have qh := xx.one (b := w.heap.size) (by (try simp only [World.size_alloc_]); omega); obtain ⟨qc, qf, ql, qe, qn, qm⟩ := qh)); (try (have qh := xx.one (b := w.heap.size + 1) (by (try simp only [World.size_alloc_]); omega); obtain ⟨qc, qf, ql, qe, qn, qm⟩ := qh)); (try (have qh := xx.one (b := w.heap.size + 1 + 1) (by (try simp only [World.size_alloc_]); omega); obtain ⟨qc, qf, ql, qe, qn, qm⟩ := qh)); (try (have qh := xx.one (b := w.heap.size + 1 + 1 + 1) (by (try simp only [World.size_alloc_]); omega); obtain ⟨qc, qf, ql, qe, qn, qm⟩ := qh))))
    go_ret
    exact ⟨rfl, (by repeat (first | with_reducible exact Ext.refl _ | with_reducible assumption | with_reducible refine Ext.alloc ?_ _ | with_reducible refine Ext.drew ?_ | (with_reducible refine Ext.setCell ?_ ?_ _; rotate_left; focus (first | (simp; done) | (simp; omega) | omega)) | (with_reducible refine Ext.setRow ?_ ?_ _; rotate_left; focus (first | (simp; done) | (simp; omega) | omega)) | with_reducible refine Ext.trans ?_ (by with_reducible assumption)))⟩
  · have hk : decide (1 ≤ x.kind ∧ x.kind ≤ 8) = false := by simpa using h
    have HK := Lib.hid (withinE_is x.kind 1 8 false hk)
    clear hk h
    go_enter Tryd.func70, Tryd.ntmps70
    go_wp2_with (first | (go_at_call 84; refine (HV.out _).mono ?_; rintro e wx ⟨rfl, xx⟩; obtain ⟨xc, xf, xl, xe, xn, xm⟩ := xx.look; have xz := xx.size; (try simp only [World.size_alloc_] at xz); (try (have qh := xx.one (b := w.heap.size) (by (try simp only [World.size_alloc_]); omega); obtain ⟨qc, qf, ql, qe, qn, qm⟩ := qh)); (try (have qh := xx.one (b := w.heap.size + 1) (by (try simp only [World.size_alloc_]); omega); obtain ⟨qc, qf, ql, qe, qn, qm⟩ := qh)); (try (have qh := xx.one (b := w.heap.size + 1 + 1) (by (try simp only [World.size_alloc_]); omega); obtain ⟨qc, qf, ql, qe, qn, qm⟩ := qh)); (try (have qh := xx.one (b := w.heap.size + 1 + 1 + 1) (by (try simp only [World.size_alloc_]); omega); obtain ⟨qc, qf, ql, qe, qn, qm⟩ := qh))) | (go_at_call 69; refine (HK.out _).mono ?_; rintro e wx ⟨rfl, xx⟩; obtain ⟨xc, xf, xl, xe, xn, xm⟩ := xx.look; have xz := xx.size; (try simp only [World.size_alloc_, World.size_setCell_] at xz); (try (have qh := xx.one (b := w.heap.size) (by (try simp only [World.size_alloc_, World.size_setCell_]); omega); obtain ⟨qc, qf, ql, qe, qn, qm⟩ := qh)); (try (have qh := xx.one (b := w.heap.size + 1) (by (try simp only [World.size_alloc_, World.size_setCell_]); omega); obtain ⟨qc, qf, ql, qe, qn, qm⟩ := qh)); (try (have qh := xx.one (b := w.heap.size + 1 + 1) (by (try simp only [World.size_alloc_, World.size_setCell_]); omega); obtain ⟨qc, qf, ql, qe, qn, qm⟩ := qh)); (try (have qh := xx.one (b := w.heap.size + 1 + 1 + 1) (by (try simp only [World.size_alloc_, World.size_setCell_]); omega); obtain ⟨qc, qf, ql, qe, qn, qm⟩ := qh))))
    go_ret
    exact ⟨rfl, (by repeat (first | with_reducible exact Ext.refl _ | with_reducible assumption | with_reducible refine Ext.alloc ?_ _ | with_reducible refine Ext.drew ?_ | (with_reducible refine Ext.setCell ?_ ?_ _; rotate_left; focus (first | (simp; done) | (simp; omega) | omega)) | (with_reducible refine Ext.setRow ?_ ?_ _; rotate_left; focus (first | (simp; done) | (simp; omega) | omega)) | with_reducible refine Ext.trans ?_ (by with_reducible assumption)))⟩

end Go.Proofs.YtjceebpafnnffaaDoor
