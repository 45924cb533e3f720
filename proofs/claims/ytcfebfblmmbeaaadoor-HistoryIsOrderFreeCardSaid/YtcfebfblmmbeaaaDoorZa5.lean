/- YtcfebfblmmbeaaaDoorEe · YtcfebfblmmbeaaaDoorBy · YtcfebfblmmbeaaaDoorBk · YtcfebfblmmbeaaaDoorBz · YtcfebfblmmbeaaaDoorBr · YtcfebfblmmbeaaaDoorBs · YtcfebfblmmbeaaaDoorUn -/
import Derived.Great.BuildSlice
import Derived.Test.YtcfebfblmmbeaaaDoorZa4
/- Contracts of the layer of edits, on: Formed, each kind. -/
namespace Go.Proofs.YtcfebfblmmbeaaaDoor
open Go Go.RowKit

set_option maxHeartbeats 4000000 in
theorem Formed_1 (x : Ed) (w : World) (h : validS x.st = true) (hk : x.kind = 1) (hR : RowsIn w) :
    Calls Tryd.prog 43 #[.agg #[.int .i64 x.st.tick, .int .i64 x.st.clock, .int .i64 x.st.site, .int .i64 x.st.seq, .int .i64 x.kind, .int .i64 x.box.lo.x, .int .i64 x.box.lo.y, .int .i64 x.box.lo.z, .int .i64 x.box.hi.x, .int .i64 x.box.hi.y, .int .i64 x.box.hi.z, .int .i64 x.at_.x, .int .i64 x.at_.y, .int .i64 x.at_.z, .int .i64 x.turn, .int .i64 x.cell, .int .i64 x.size]] w fun e w' => e = .returned (.bool (formedE x)) ∧ Ext w w' := by
  have HF := Lib.hid (formedE_def x)
  have hv := fun w => Valid_any x.st w
  rw [h] at HF hv
  have HV := Lib.hid hv
  obtain ⟨st, kind, box, at_, turn, cell, size⟩ := x
  simp only at hk
  subst hk
  clear h hv
  have hqb := eqBx_run box zeroBx
  have hqp := eqPt_run at_ zeroPt
  simp only [zeroBx, zeroPt] at hqb hqp HF
  have hu1 : usesF 1 1 = true := rfl
  have hu2 : usesF 1 2 = false := rfl
  have hu4 : usesF 1 4 = false := rfl
  have hu8 : usesF 1 8 = true := rfl
  have hu16 : usesF 1 16 = false := rfl
  generalize decide (box = ⟨⟨0, 0, 0⟩, ⟨0, 0, 0⟩⟩) = eb at HF hqb
  generalize decide (at_ = ⟨0, 0, 0⟩) = ep at HF hqp
  simp only [hu1, hu2, hu4, hu8, hu16] at HF
  go_enter Tryd.func43, Tryd.ntmps43
  go_wp2_with (first | (go_at_call 52; refine (HV.out _).mono ?_; rintro e wx ⟨rfl, xx⟩; obtain ⟨xc, xf, xl, xe, xn, xm⟩ := xx.look; have xz := xx.size; (try simp only [World.size_alloc_] at xz); (try (have qh := xx.one (b := w.heap.size) (by (try simp only [World.size_alloc_]); omega); obtain ⟨qc, qf, ql, qe, qn, qm⟩ := qh)); (try (have qh := xx.one (b := w.heap.size + 1) (by (try simp only [World.size_alloc_]); omega); obtain ⟨qc, qf, ql, qe, qn, qm⟩ := qh)); (try (have qh := xx.one (b := w.heap.size + 1 + 1) (by (try simp only [World.size_alloc_]); omega); obtain ⟨qc, qf, ql, qe, qn, qm⟩ := qh)); (try (have qh := xx.one (b := w.heap.size + 1 + 1 + 1) (by (try simp only [World.size_alloc_]); omega); obtain ⟨qc, qf, ql, qe, qn, qm⟩ := qh))) | (go_at_call 53; refine (withinE_any _ _ _ _).mono ?_; rintro e wx ⟨rfl, xx⟩; obtain ⟨xc, xf, xl, xe, xn, xm⟩ := xx.look; have xz := xx.size; (try simp only [World.size_alloc_, World.size_setCell_] at xz); (try (have qh := xx.one (b := w.heap.size) (by (try simp only [World.size_alloc_, World.size_setCell_]); omega); obtain ⟨qc, qf, ql, qe, qn, qm⟩ := qh)); (try (have qh := xx.one (b := w.heap.size + 1) (by (try simp only [World.size_alloc_, World.size_setCell_]); omega); obtain ⟨qc, qf, ql, qe, qn, qm⟩ := qh)); (try (have qh := xx.one (b := w.heap.size + 1 + 1) (by (try simp only [World.size_alloc_, World.size_setCell_]); omega); obtain ⟨qc, qf, ql, qe, qn, qm⟩ := qh)); (try (have qh := xx.one (b := w.heap.size + 1 + 1 + 1) (by (try simp only [World.size_alloc_, World.size_setCell_]); omega); obtain ⟨qc, qf, ql, qe, qn, qm⟩ := qh))) | (go_at_call 54; refine (uses_any _ _ (by omega) (by omega) _ (hR.ext (by repeat (first | with_reducible exact Ext.refl _ | with_reducible assumption | with_reducible refine Ext.alloc ?_ _ | with_reducible refine Ext.drew ?_ | (with_reducible refine Ext.setCell ?_ ?_ _; rotate_left; focus (first | (simp; done) | (simp; omega) | omega)) | (with_reducible refine Ext.setRow ?_ ?_ _; rotate_left; focus (first | (simp; done) | (simp; omega) | omega)) | with_reducible refine Ext.trans ?_ (by with_reducible assumption))))).mono ?_; rintro e wx ⟨rfl, xx⟩; obtain ⟨xc, xf, xl, xe, xn, xm⟩ := xx.look; have xz := xx.size; (try simp only [World.size_alloc_, World.size_setCell_] at xz); (try (have qh := xx.one (b := w.heap.size) (by (try simp only [World.size_alloc_, World.size_setCell_]); omega); obtain ⟨qc, qf, ql, qe, qn, qm⟩ := qh)); (try (have qh := xx.one (b := w.heap.size + 1) (by (try simp only [World.size_alloc_, World.size_setCell_]); omega); obtain ⟨qc, qf, ql, qe, qn, qm⟩ := qh)); (try (have qh := xx.one (b := w.heap.size + 1 + 1) (by (try simp only [World.size_alloc_, World.size_setCell_]); omega); obtain ⟨qc, qf, ql, qe, qn, qm⟩ := qh)); (try (have qh := xx.one (b := w.heap.size + 1 + 1 + 1) (by (try simp only [World.size_alloc_, World.size_setCell_]); omega); obtain ⟨qc, qf, ql, qe, qn, qm⟩ := qh))))
  all_goals
    go_ret
    rw [HF.out]
    exact ⟨ret_bool (by first | (simp [*]; done) | (rw [Bool.eq_iff_iff]; simp [*])), (by repeat (first | with_reducible exact Ext.refl _ | with_reducible assumption | with_reducible refine Ext.alloc ?_ _ | with_reducible refine Ext.drew ?_ | (with_reducible refine Ext.setCell ?_ ?_ _; rotate_left; focus (first | (simp; done) | (simp; omega) | omega)) | (with_reducible refine Ext.setRow ?_ ?_ _; rotate_left; focus (first | (simp; done) | (simp; omega) | omega)) | with_reducible refine Ext.trans ?_ (by with_reducible assumption)))⟩

set_option maxHeartbeats 4000000 in
theorem Formed_2 (x : Ed) (w : World) (h : validS x.st = true) (hk : x.kind = 2) (hR : RowsIn w) :
    Calls Tryd.prog 43 #[.agg #[.int .i64 x.st.tick, .int .i64 x.st.clock, .int .i64 x.st.site, .int .i64 x.st.seq, .int .i64 x.kind, .int .i64 x.box.lo.x, .int .i64 x.box.lo.y, .int .i64 x.box.lo.z, .int .i64 x.box.hi.x, .int .i64 x.box.hi.y, .int .i64 x.box.hi.z, .int .i64 x.at_.x, .int .i64 x.at_.y, .int .i64 x.at_.z, .int .i64 x.turn, .int .i64 x.cell, .int .i64 x.size]] w fun e w' => e = .returned (.bool (formedE x)) ∧ Ext w w' := by
  have HF := Lib.hid (formedE_def x)
  have hv := fun w => Valid_any x.st w
  rw [h] at HF hv
  have HV := Lib.hid hv
  obtain ⟨st, kind, box, at_, turn, cell, size⟩ := x
  simp only at hk
  subst hk
  clear h hv
  have hqb := eqBx_run box zeroBx
  have hqp := eqPt_run at_ zeroPt
  simp only [zeroBx, zeroPt] at hqb hqp HF
  have hu1 : usesF 2 1 = false := rfl
  have hu2 : usesF 2 2 = true := rfl
  have hu4 : usesF 2 4 = false := rfl
  have hu8 : usesF 2 8 = true := rfl
  have hu16 : usesF 2 16 = true := rfl
  generalize decide (box = ⟨⟨0, 0, 0⟩, ⟨0, 0, 0⟩⟩) = eb at HF hqb
  generalize decide (at_ = ⟨0, 0, 0⟩) = ep at HF hqp
  simp only [hu1, hu2, hu4, hu8, hu16] at HF
  go_enter Tryd.func43, Tryd.ntmps43
  go_wp2_with (first | (go_at_call 52; refine (HV.out _).mono ?_; rintro e wx ⟨rfl, xx⟩; obtain ⟨xc, xf, xl, xe, xn, xm⟩ := xx.look; have xz := xx.size; (try simp only [World.size_alloc_] at xz); (try (have qh := xx.one (b := w.heap.size) (by (try simp only [World.size_alloc_]); omega); obtain ⟨qc, qf, ql, qe, qn, qm⟩ := qh)); (try (have qh := xx.one (b := w.heap.size + 1) (by (try simp only [World.size_alloc_]); omega); obtain ⟨qc, qf, ql, qe, qn, qm⟩ := qh)); (try (have qh := xx.one (b := w.heap.size + 1 + 1) (by (try simp only [World.size_alloc_]); omega); obtain ⟨qc, qf, ql, qe, qn, qm⟩ := qh)); (try (have qh := xx.one (b := w.heap.size + 1 + 1 + 1) (by (try simp only [World.size_alloc_]); omega); obtain ⟨qc, qf, ql, qe, qn, qm⟩ := qh))) | (go_at_call 53; refine (withinE_any _ _ _ _).mono ?_; rintro e wx ⟨rfl, xx⟩; obtain ⟨xc, xf, xl, xe, xn, xm⟩ := xx.look; have xz := xx.size; (try simp only [World.size_alloc_, World.size_setCell_] at xz); (try (have qh := xx.one (b := w.heap.size) (by (try simp only [World.size_alloc_, World.size_setCell_]); omega); obtain ⟨qc, qf, ql, qe, qn, qm⟩ := qh)); (try (have qh := xx.one (b := w.heap.size + 1) (by (try simp only [World.size_alloc_, World.size_setCell_]); omega); obtain ⟨qc, qf, ql, qe, qn, qm⟩ := qh)); (try (have qh := xx.one (b := w.heap.size + 1 + 1) (by (try simp only [World.size_alloc_, World.size_setCell_]); omega); obtain ⟨qc, qf, ql, qe, qn, qm⟩ := qh)); (try (have qh := xx.one (b := w.heap.size + 1 + 1 + 1) (by (try simp only [World.size_alloc_, World.size_setCell_]); omega); obtain ⟨qc, qf, ql, qe, qn, qm⟩ := qh))) | (go_at_call 54; refine (uses_any _ _ (by omega) (by omega) _ (hR.ext (by repeat (first | with_reducible exact Ext.refl _ | with_reducible assumption | with_reducible refine Ext.alloc ?_ _ | with_reducible refine Ext.drew ?_ | (with_reducible refine Ext.setCell ?_ ?_ _; rotate_left; focus (first | (simp; done) | (simp; omega) | omega)) | (with_reducible refine Ext.setRow ?_ ?_ _; rotate_left; focus (first | (simp; done) | (simp; omega) | omega)) | with_reducible refine Ext.trans ?_ (by with_reducible assumption))))).mono ?_; rintro e wx ⟨rfl, xx⟩; obtain ⟨xc, xf, xl, xe, xn, xm⟩ := xx.look; have xz := xx.size; (try simp only [World.size_alloc_, World.size_setCell_] at xz); (try (have qh := xx.one (b := w.heap.size) (by (try simp only [World.size_alloc_, World.size_setCell_]); omega); obtain ⟨qc, qf, ql, qe, qn, qm⟩ := qh)); (try (have qh := xx.one (b := w.heap.size + 1) (by (try simp only [World.size_alloc_, World.size_setCell_]); omega); obtain ⟨qc, qf, ql, qe, qn, qm⟩ := qh)); (try (have qh := xx.one (b := w.heap.size + 1 + 1) (by (try simp only [World.size_alloc_, World.size_setCell_]); omega); obtain ⟨qc, qf, ql, qe, qn, qm⟩ := qh)); (try (have qh := xx.one (b := w.heap.size + 1 + 1 + 1) (by (try simp only [World.size_alloc_, World.size_setCell_]); omega); obtain ⟨qc, qf, ql, qe, qn, qm⟩ := qh))))
  all_goals
    go_ret
    rw [HF.out]
    exact ⟨ret_bool (by first | (simp [*]; done) | (rw [Bool.eq_iff_iff]; simp [*])), (by repeat (first | with_reducible exact Ext.refl _ | with_reducible assumption | with_reducible refine Ext.alloc ?_ _ | with_reducible refine Ext.drew ?_ | (with_reducible refine Ext.setCell ?_ ?_ _; rotate_left; focus (first | (simp; done) | (simp; omega) | omega)) | (with_reducible refine Ext.setRow ?_ ?_ _; rotate_left; focus (first | (simp; done) | (simp; omega) | omega)) | with_reducible refine Ext.trans ?_ (by with_reducible assumption)))⟩

set_option maxHeartbeats 4000000 in
theorem Formed_3 (x : Ed) (w : World) (h : validS x.st = true) (hk : x.kind = 3) (hR : RowsIn w) :
    Calls Tryd.prog 43 #[.agg #[.int .i64 x.st.tick, .int .i64 x.st.clock, .int .i64 x.st.site, .int .i64 x.st.seq, .int .i64 x.kind, .int .i64 x.box.lo.x, .int .i64 x.box.lo.y, .int .i64 x.box.lo.z, .int .i64 x.box.hi.x, .int .i64 x.box.hi.y, .int .i64 x.box.hi.z, .int .i64 x.at_.x, .int .i64 x.at_.y, .int .i64 x.at_.z, .int .i64 x.turn, .int .i64 x.cell, .int .i64 x.size]] w fun e w' => e = .returned (.bool (formedE x)) ∧ Ext w w' := by
  have HF := Lib.hid (formedE_def x)
  have hv := fun w => Valid_any x.st w
  rw [h] at HF hv
  have HV := Lib.hid hv
  obtain ⟨st, kind, box, at_, turn, cell, size⟩ := x
  simp only at hk
  subst hk
  clear h hv
  have hqb := eqBx_run box zeroBx
  have hqp := eqPt_run at_ zeroPt
  simp only [zeroBx, zeroPt] at hqb hqp HF
  have hu1 : usesF 3 1 = true := rfl
  have hu2 : usesF 3 2 = false := rfl
  have hu4 : usesF 3 4 = true := rfl
  have hu8 : usesF 3 8 = true := rfl
  have hu16 : usesF 3 16 = false := rfl
  generalize decide (box = ⟨⟨0, 0, 0⟩, ⟨0, 0, 0⟩⟩) = eb at HF hqb
  generalize decide (at_ = ⟨0, 0, 0⟩) = ep at HF hqp
  simp only [hu1, hu2, hu4, hu8, hu16] at HF
  go_enter Tryd.func43, Tryd.ntmps43
  go_wp2_with (first | (go_at_call 52; refine (HV.out _).mono ?_; rintro e wx ⟨rfl, xx⟩; obtain ⟨xc, xf, xl, xe, xn, xm⟩ := xx.look; have xz := xx.size; (try simp only [World.size_alloc_] at xz); (try (have qh := xx.one (b := w.heap.size) (by (try simp only [World.size_alloc_]); omega); obtain ⟨qc, qf, ql, qe, qn, qm⟩ := qh)); (try (have qh := xx.one (b := w.heap.size + 1) (by (try simp only [World.size_alloc_]); omega); obtain ⟨qc, qf, ql, qe, qn, qm⟩ := qh)); (try (have qh := xx.one (b := w.heap.size + 1 + 1) (by (try simp only [World.size_alloc_]); omega); obtain ⟨qc, qf, ql, qe, qn, qm⟩ := qh)); (try (have qh := xx.one (b := w.heap.size + 1 + 1 + 1) (by (try simp only [World.size_alloc_]); omega); obtain ⟨qc, qf, ql, qe, qn, qm⟩ := qh))) | (go_at_call 53; refine (withinE_any _ _ _ _).mono ?_; rintro e wx ⟨rfl, xx⟩; obtain ⟨xc, xf, xl, xe, xn, xm⟩ := xx.look; have xz := xx.size; (try simp only [World.size_alloc_, World.size_setCell_] at xz); (try (have qh := xx.one (b := w.heap.size) (by (try simp only [World.size_alloc_, World.size_setCell_]); omega); obtain ⟨qc, qf, ql, qe, qn, qm⟩ := qh)); (try (have qh := xx.one (b := w.heap.size + 1) (by (try simp only [World.size_alloc_, World.size_setCell_]); omega); obtain ⟨qc, qf, ql, qe, qn, qm⟩ := qh)); (try (have qh := xx.one (b := w.heap.size + 1 + 1) (by (try simp only [World.size_alloc_, World.size_setCell_]); omega); obtain ⟨qc, qf, ql, qe, qn, qm⟩ := qh)); (try (have qh := xx.one (b := w.heap.size + 1 + 1 + 1) (by (try simp only [World.size_alloc_, World.size_setCell_]); omega); obtain ⟨qc, qf, ql, qe, qn, qm⟩ := qh))) | (go_at_call 54; refine (uses_any _ _ (by omega) (by omega) _ (hR.ext (by repeat (first | with_reducible exact Ext.refl _ | with_reducible assumption | with_reducible refine Ext.alloc ?_ _ | with_reducible refine Ext.drew ?_ | (with_reducible refine Ext.setCell ?_ ?_ _; rotate_left; focus (first | (simp; done) | (simp; omega) | omega)) | (with_reducible refine Ext.setRow ?_ ?_ _; rotate_left; focus (first | (simp; done) | (simp; omega) | omega)) | with_reducible refine Ext.trans ?_ (by with_reducible assumption))))).mono ?_; rintro e wx ⟨rfl, xx⟩; obtain ⟨xc, xf, xl, xe, xn, xm⟩ := xx.look; have xz := xx.size; (try simp only [World.size_alloc_, World.size_setCell_] at xz); (try (have qh := xx.one (b := w.heap.size) (by (try simp only [World.size_alloc_, World.size_setCell_]); omega); obtain ⟨qc, qf, ql, qe, qn, qm⟩ := qh)); (try (have qh := xx.one (b := w.heap.size + 1) (by (try simp only [World.size_alloc_, World.size_setCell_]); omega); obtain ⟨qc, qf, ql, qe, qn, qm⟩ := qh)); (try (have qh := xx.one (b := w.heap.size + 1 + 1) (by (try simp only [World.size_alloc_, World.size_setCell_]); omega); obtain ⟨qc, qf, ql, qe, qn, qm⟩ := qh)); (try (have qh := xx.one (b := w.heap.size + 1 + 1 + 1) (by (try simp only [World.size_alloc_, World.size_setCell_]); omega); obtain ⟨qc, qf, ql, qe, qn, qm⟩ := qh))))
  all_goals
    go_ret
    rw [HF.out]
    exact ⟨ret_bool (by first | (simp [*]; done) | (rw [Bool.eq_iff_iff]; simp [*])), (by repeat (first | with_reducible exact Ext.refl _ | with_reducible assumption | with_reducible refine Ext.alloc ?_ _ | with_reducible refine Ext.drew ?_ | (with_reducible refine Ext.setCell ?_ ?_ _; rotate_left; focus (first | (simp; done) | (simp; omega) | omega)) | (with_reducible refine Ext.setRow ?_ ?_ _; rotate_left; focus (first | (simp; done) | (simp; omega) | omega)) | with_reducible refine Ext.trans ?_ (by with_reducible assumption)))⟩

set_option maxHeartbeats 4000000 in
theorem Formed_4 (x : Ed) (w : World) (h : validS x.st = true) (hk : x.kind = 4) (hR : RowsIn w) :
    Calls Tryd.prog 43 #[.agg #[.int .i64 x.st.tick, .int .i64 x.st.clock, .int .i64 x.st.site, .int .i64 x.st.seq, .int .i64 x.kind, .int .i64 x.box.lo.x, .int .i64 x.box.lo.y, .int .i64 x.box.lo.z, .int .i64 x.box.hi.x, .int .i64 x.box.hi.y, .int .i64 x.box.hi.z, .int .i64 x.at_.x, .int .i64 x.at_.y, .int .i64 x.at_.z, .int .i64 x.turn, .int .i64 x.cell, .int .i64 x.size]] w fun e w' => e = .returned (.bool (formedE x)) ∧ Ext w w' := by
  have HF := Lib.hid (formedE_def x)
  have hv := fun w => Valid_any x.st w
  rw [h] at HF hv
  have HV := Lib.hid hv
  obtain ⟨st, kind, box, at_, turn, cell, size⟩ := x
  simp only at hk
  subst hk
  clear h hv
  have hqb := eqBx_run box zeroBx
  have hqp := eqPt_run at_ zeroPt
  simp only [zeroBx, zeroPt] at hqb hqp HF
  have hu1 : usesF 4 1 = true := rfl
  have hu2 : usesF 4 2 = true := rfl
  have hu4 : usesF 4 4 = true := rfl
  have hu8 : usesF 4 8 = false := rfl
  have hu16 : usesF 4 16 = false := rfl
  generalize decide (box = ⟨⟨0, 0, 0⟩, ⟨0, 0, 0⟩⟩) = eb at HF hqb
  generalize decide (at_ = ⟨0, 0, 0⟩) = ep at HF hqp
  simp only [hu1, hu2, hu4, hu8, hu16] at HF
  go_enter Tryd.func43, Tryd.ntmps43
  go_wp2_with (first | (go_at_call 52; refine (HV.out _).mono ?_; rintro e wx ⟨rfl, xx⟩; obtain ⟨xc, xf, xl, xe, xn, xm⟩ := xx.look; have xz := xx.size; (try simp only [World.size_alloc_] at xz); (try (have qh := xx.one (b := w.heap.size) (by (try simp only [World.size_alloc_]); omega); obtain ⟨qc, qf, ql, qe, qn, qm⟩ := qh)); (try (have qh := xx.one (b := w.heap.size + 1) (by (try simp only [World.size_alloc_]); omega); obtain ⟨qc, qf, ql, qe, qn, qm⟩ := qh)); (try (have qh := xx.one (b := w.heap.size + 1 + 1) (by (try simp only [World.size_alloc_]); omega); obtain ⟨qc, qf, ql, qe, qn, qm⟩ := qh)); (try (have qh := xx.one (b := w.heap.size + 1 + 1 + 1) (by (try simp only [World.size_alloc_]); omega); obtain ⟨qc, qf, ql, qe, qn, qm⟩ := qh))) | (go_at_call 53; refine (withinE_any _ _ _ _).mono ?_; rintro e wx ⟨rfl, xx⟩; obtain ⟨xc, xf, xl, xe, xn, xm⟩ := xx.look; have xz := xx.size; (try simp only [World.size_alloc_, World.size_setCell_] at xz); (try (have qh := xx.one (b := w.heap.size) (by (try simp only [World.size_alloc_, World.size_setCell_]); omega); obtain ⟨qc, qf, ql, qe, qn, qm⟩ := qh)); (try (have qh := xx.one (b := w.heap.size + 1) (by (try simp only [World.size_alloc_, World.size_setCell_]); omega); obtain ⟨qc, qf, ql, qe, qn, qm⟩ := qh)); (try (have qh := xx.one (b := w.heap.size + 1 + 1) (by (try simp only [World.size_alloc_, World.size_setCell_]); omega); obtain ⟨qc, qf, ql, qe, qn, qm⟩ := qh)); (try (have qh := xx.one (b := w.heap.size + 1 + 1 + 1) (by (try simp only [World.size_alloc_, World.size_setCell_]); omega); obtain ⟨qc, qf, ql, qe, qn, qm⟩ := qh))) | (go_at_call 54; refine (uses_any _ _ (by omega) (by omega) _ (hR.ext (by repeat (first | with_reducible exact Ext.refl _ | with_reducible assumption | with_reducible refine Ext.alloc ?_ _ | with_reducible refine Ext.drew ?_ | (with_reducible refine Ext.setCell ?_ ?_ _; rotate_left; focus (first | (simp; done) | (simp; omega) | omega)) | (with_reducible refine Ext.setRow ?_ ?_ _; rotate_left; focus (first | (simp; done) | (simp; omega) | omega)) | with_reducible refine Ext.trans ?_ (by with_reducible assumption))))).mono ?_; rintro e wx ⟨rfl, xx⟩; obtain ⟨xc, xf, xl, xe, xn, xm⟩ := xx.look; have xz := xx.size; (try simp only [World.size_alloc_, World.size_setCell_] at xz); (try (have qh := xx.one (b := w.heap.size) (by (try simp only [World.size_alloc_, World.size_setCell_]); omega); obtain ⟨qc, qf, ql, qe, qn, qm⟩ := qh)); (try (have qh := xx.one (b := w.heap.size + 1) (by (try simp only [World.size_alloc_, World.size_setCell_]); omega); obtain ⟨qc, qf, ql, qe, qn, qm⟩ := qh)); (try (have qh := xx.one (b := w.heap.size + 1 + 1) (by (try simp only [World.size_alloc_, World.size_setCell_]); omega); obtain ⟨qc, qf, ql, qe, qn, qm⟩ := qh)); (try (have qh := xx.one (b := w.heap.size + 1 + 1 + 1) (by (try simp only [World.size_alloc_, World.size_setCell_]); omega); obtain ⟨qc, qf, ql, qe, qn, qm⟩ := qh))))
  all_goals
    go_ret
    rw [HF.out]
    exact ⟨ret_bool (by first | (simp [*]; done) | (rw [Bool.eq_iff_iff]; simp [*])), (by repeat (first | with_reducible exact Ext.refl _ | with_reducible assumption | with_reducible refine Ext.alloc ?_ _ | with_reducible refine Ext.drew ?_ | (with_reducible refine Ext.setCell ?_ ?_ _; rotate_left; focus (first | (simp; done) | (simp; omega) | omega)) | (with_reducible refine Ext.setRow ?_ ?_ _; rotate_left; focus (first | (simp; done) | (simp; omega) | omega)) | with_reducible refine Ext.trans ?_ (by with_reducible assumption)))⟩

set_option maxHeartbeats 4000000 in
theorem Formed_5 (x : Ed) (w : World) (h : validS x.st = true) (hk : x.kind = 5) (hR : RowsIn w) :
    Calls Tryd.prog 43 #[.agg #[.int .i64 x.st.tick, .int .i64 x.st.clock, .int .i64 x.st.site, .int .i64 x.st.seq, .int .i64 x.kind, .int .i64 x.box.lo.x, .int .i64 x.box.lo.y, .int .i64 x.box.lo.z, .int .i64 x.box.hi.x, .int .i64 x.box.hi.y, .int .i64 x.box.hi.z, .int .i64 x.at_.x, .int .i64 x.at_.y, .int .i64 x.at_.z, .int .i64 x.turn, .int .i64 x.cell, .int .i64 x.size]] w fun e w' => e = .returned (.bool (formedE x)) ∧ Ext w w' := by
  have HF := Lib.hid (formedE_def x)
  have hv := fun w => Valid_any x.st w
  rw [h] at HF hv
  have HV := Lib.hid hv
  obtain ⟨st, kind, box, at_, turn, cell, size⟩ := x
  simp only at hk
  subst hk
  clear h hv
  have hqb := eqBx_run box zeroBx
  have hqp := eqPt_run at_ zeroPt
  simp only [zeroBx, zeroPt] at hqb hqp HF
  have hu1 : usesF 5 1 = false := rfl
  have hu2 : usesF 5 2 = true := rfl
  have hu4 : usesF 5 4 = false := rfl
  have hu8 : usesF 5 8 = true := rfl
  have hu16 : usesF 5 16 = true := rfl
  generalize decide (box = ⟨⟨0, 0, 0⟩, ⟨0, 0, 0⟩⟩) = eb at HF hqb
  generalize decide (at_ = ⟨0, 0, 0⟩) = ep at HF hqp
  simp only [hu1, hu2, hu4, hu8, hu16] at HF
  go_enter Tryd.func43, Tryd.ntmps43
  go_wp2_with (first | (go_at_call 52; refine (HV.out _).mono ?_; rintro e wx ⟨rfl, xx⟩; obtain ⟨xc, xf, xl, xe, xn, xm⟩ := xx.look; have xz := xx.size; (try simp only [World.size_alloc_] at xz); (try (have qh := xx.one (b := w.heap.size) (by (try simp only [World.size_alloc_]); omega); obtain ⟨qc, qf, ql, qe, qn, qm⟩ := qh)); (try (have qh := xx.one (b := w.heap.size + 1) (by (try simp only [World.size_alloc_]); omega); obtain ⟨qc, qf, ql, qe, qn, qm⟩ := qh)); (try (have qh := xx.one (b := w.heap.size + 1 + 1) (by (try simp only [World.size_alloc_]); omega); obtain ⟨qc, qf, ql, qe, qn, qm⟩ := qh)); (try (have qh := xx.one (b := w.heap.size + 1 + 1 + 1) (by (try simp only [World.size_alloc_]); omega); obtain ⟨qc, qf, ql, qe, qn, qm⟩ := qh))) | (go_at_call 53; refine (withinE_any _ _ _ _).mono ?_; rintro e wx ⟨rfl, xx⟩; obtain ⟨xc, xf, xl, xe, xn, xm⟩ := xx.look; have xz := xx.size; (try simp only [World.size_alloc_, World.size_setCell_] at xz); (try (have qh := xx.one (b := w.heap.size) (by (try simp only [World.size_alloc_, World.size_setCell_]); omega); obtain ⟨qc, qf, ql, qe, qn, qm⟩ := qh)); (try (have qh := xx.one (b := w.heap.size + 1) (by (try simp only [World.size_alloc_, World.size_setCell_]); omega); obtain ⟨qc, qf, ql, qe, qn, qm⟩ := qh)); (try (have qh := xx.one (b := w.heap.size + 1 + 1) (by (try simp only [World.size_alloc_, World.size_setCell_]); omega); obtain ⟨qc, qf, ql, qe, qn, qm⟩ := qh)); (try (have qh := xx.one (b := w.heap.size + 1 + 1 + 1) (by (try simp only [World.size_alloc_, World.size_setCell_]); omega); obtain ⟨qc, qf, ql, qe, qn, qm⟩ := qh))) | (go_at_call 54; refine (uses_any _ _ (by omega) (by omega) _ (hR.ext (by repeat (first | with_reducible exact Ext.refl _ | with_reducible assumption | with_reducible refine Ext.alloc ?_ _ | with_reducible refine Ext.drew ?_ | (with_reducible refine Ext.setCell ?_ ?_ _; rotate_left; focus (first | (simp; done) | (simp; omega) | omega)) | (with_reducible refine Ext.setRow ?_ ?_ _; rotate_left; focus (first | (simp; done) | (simp; omega) | omega)) | with_reducible refine Ext.trans ?_ (by with_reducible assumption))))).mono ?_; rintro e wx ⟨rfl, xx⟩; obtain ⟨xc, xf, xl, xe, xn, xm⟩ := xx.look; have xz := xx.size; (try simp only [World.size_alloc_, World.size_setCell_] at xz); (try (have qh := xx.one (b := w.heap.size) (by (try simp only [World.size_alloc_, World.size_setCell_]); omega); obtain ⟨qc, qf, ql, qe, qn, qm⟩ := qh)); (try (have qh := xx.one (b := w.heap.size + 1) (by (try simp only [World.size_alloc_, World.size_setCell_]); omega); obtain ⟨qc, qf, ql, qe, qn, qm⟩ := qh)); (try (have qh := xx.one (b := w.heap.size + 1 + 1) (by (try simp only [World.size_alloc_, World.size_setCell_]); omega); obtain ⟨qc, qf, ql, qe, qn, qm⟩ := qh)); (try (have qh := xx.one (b := w.heap.size + 1 + 1 + 1) (by (try simp only [World.size_alloc_, World.size_setCell_]); omega); obtain ⟨qc, qf, ql, qe, qn, qm⟩ := qh))))
  all_goals
    go_ret
    rw [HF.out]
    exact ⟨ret_bool (by first | (simp [*]; done) | (rw [Bool.eq_iff_iff]; simp [*])), (by repeat (first | with_reducible exact Ext.refl _ | with_reducible assumption | with_reducible refine Ext.alloc ?_ _ | with_reducible refine Ext.drew ?_ | (with_reducible refine Ext.setCell ?_ ?_ _; rotate_left; focus (first | (simp; done) | (simp; omega) | omega)) | (with_reducible refine Ext.setRow ?_ ?_ _; rotate_left; focus (first | (simp; done) | (simp; omega) | omega)) | with_reducible refine Ext.trans ?_ (by with_reducible assumption)))⟩

set_option maxHeartbeats 4000000 in
theorem Formed_6 (x : Ed) (w : World) (h : validS x.st = true) (hk : x.kind = 6) (hR : RowsIn w) :
    Calls Tryd.prog 43 #[.agg #[.int .i64 x.st.tick, .int .i64 x.st.clock, .int .i64 x.st.site, .int .i64 x.st.seq, .int .i64 x.kind, .int .i64 x.box.lo.x, .int .i64 x.box.lo.y, .int .i64 x.box.lo.z, .int .i64 x.box.hi.x, .int .i64 x.box.hi.y, .int .i64 x.box.hi.z, .int .i64 x.at_.x, .int .i64 x.at_.y, .int .i64 x.at_.z, .int .i64 x.turn, .int .i64 x.cell, .int .i64 x.size]] w fun e w' => e = .returned (.bool (formedE x)) ∧ Ext w w' := by
  have HF := Lib.hid (formedE_def x)
  have hv := fun w => Valid_any x.st w
  rw [h] at HF hv
  have HV := Lib.hid hv
  obtain ⟨st, kind, box, at_, turn, cell, size⟩ := x
  simp only at hk
  subst hk
  clear h hv
  have hqb := eqBx_run box zeroBx
  have hqp := eqPt_run at_ zeroPt
  simp only [zeroBx, zeroPt] at hqb hqp HF
  have hu1 : usesF 6 1 = false := rfl
  have hu2 : usesF 6 2 = false := rfl
  have hu4 : usesF 6 4 = false := rfl
  have hu8 : usesF 6 8 = false := rfl
  have hu16 : usesF 6 16 = true := rfl
  generalize decide (box = ⟨⟨0, 0, 0⟩, ⟨0, 0, 0⟩⟩) = eb at HF hqb
  generalize decide (at_ = ⟨0, 0, 0⟩) = ep at HF hqp
  simp only [hu1, hu2, hu4, hu8, hu16] at HF
  go_enter Tryd.func43, Tryd.ntmps43
  go_wp2_with (first | (go_at_call 52; refine (HV.out _).mono ?_; rintro e wx ⟨rfl, xx⟩; obtain ⟨xc, xf, xl, xe, xn, xm⟩ := xx.look; have xz := xx.size; (try simp only [World.size_alloc_] at xz); (try (have qh := xx.one (b := w.heap.size) (by (try simp only [World.size_alloc_]); omega); obtain ⟨qc, qf, ql, qe, qn, qm⟩ := qh)); (try (have qh := xx.one (b := w.heap.size + 1) (by (try simp only [World.size_alloc_]); omega); obtain ⟨qc, qf, ql, qe, qn, qm⟩ := qh)); (try (have qh := xx.one (b := w.heap.size + 1 + 1) (by (try simp only [World.size_alloc_]); omega); obtain ⟨qc, qf, ql, qe, qn, qm⟩ := qh)); (try (have qh := xx.one (b := w.heap.size + 1 + 1 + 1) (by (try simp only [World.size_alloc_]); omega); obtain ⟨qc, qf, ql, qe, qn, qm⟩ := qh))) | (go_at_call 53; refine (withinE_any _ _ _ _).mono ?_; rintro e wx ⟨rfl, xx⟩; obtain ⟨xc, xf, xl, xe, xn, xm⟩ := xx.look; have xz := xx.size; (try simp only [World.size_alloc_, World.size_setCell_] at xz); (try (have qh := xx.one (b := w.heap.size) (by (try simp only [World.size_alloc_, World.size_setCell_]); omega); obtain ⟨qc, qf, ql, qe, qn, qm⟩ := qh)); (try (have qh := xx.one (b := w.heap.size + 1) (by (try simp only [World.size_alloc_, World.size_setCell_]); omega); obtain ⟨qc, qf, ql, qe, qn, qm⟩ := qh)); (try (have qh := xx.one (b := w.heap.size + 1 + 1) (by (try simp only [World.size_alloc_, World.size_setCell_]); omega); obtain ⟨qc, qf, ql, qe, qn, qm⟩ := qh)); (try (have qh := xx.one (b := w.heap.size + 1 + 1 + 1) (by (try simp only [World.size_alloc_, World.size_setCell_]); omega); obtain ⟨qc, qf, ql, qe, qn, qm⟩ := qh))) | (go_at_call 54; refine (uses_any _ _ (by omega) (by omega) _ (hR.ext (by repeat (first | with_reducible exact Ext.refl _ | with_reducible assumption | with_reducible refine Ext.alloc ?_ _ | with_reducible refine Ext.drew ?_ | (with_reducible refine Ext.setCell ?_ ?_ _; rotate_left; focus (first | (simp; done) | (simp; omega) | omega)) | (with_reducible refine Ext.setRow ?_ ?_ _; rotate_left; focus (first | (simp; done) | (simp; omega) | omega)) | with_reducible refine Ext.trans ?_ (by with_reducible assumption))))).mono ?_; rintro e wx ⟨rfl, xx⟩; obtain ⟨xc, xf, xl, xe, xn, xm⟩ := xx.look; have xz := xx.size; (try simp only [World.size_alloc_, World.size_setCell_] at xz); (try (have qh := xx.one (b := w.heap.size) (by (try simp only [World.size_alloc_, World.size_setCell_]); omega); obtain ⟨qc, qf, ql, qe, qn, qm⟩ := qh)); (try (have qh := xx.one (b := w.heap.size + 1) (by (try simp only [World.size_alloc_, World.size_setCell_]); omega); obtain ⟨qc, qf, ql, qe, qn, qm⟩ := qh)); (try (have qh := xx.one (b := w.heap.size + 1 + 1) (by (try simp only [World.size_alloc_, World.size_setCell_]); omega); obtain ⟨qc, qf, ql, qe, qn, qm⟩ := qh)); (try (have qh := xx.one (b := w.heap.size + 1 + 1 + 1) (by (try simp only [World.size_alloc_, World.size_setCell_]); omega); obtain ⟨qc, qf, ql, qe, qn, qm⟩ := qh))))
  all_goals
    go_ret
    rw [HF.out]
    exact ⟨ret_bool (by first | (simp [*]; done) | (rw [Bool.eq_iff_iff]; simp [*])), (by repeat (first | with_reducible exact Ext.refl _ | with_reducible assumption | with_reducible refine Ext.alloc ?_ _ | with_reducible refine Ext.drew ?_ | (with_reducible refine Ext.setCell ?_ ?_ _; rotate_left; focus (first | (simp; done) | (simp; omega) | omega)) | (with_reducible refine Ext.setRow ?_ ?_ _; rotate_left; focus (first | (simp; done) | (simp; omega) | omega)) | with_reducible refine Ext.trans ?_ (by with_reducible assumption)))⟩

set_option maxHeartbeats 4000000 in
theorem Formed_7 (x : Ed) (w : World) (h : validS x.st = true) (hk : x.kind = 7) (hR : RowsIn w) :
    Calls Tryd.prog 43 #[.agg #[.int .i64 x.st.tick, .int .i64 x.st.clock, .int .i64 x.st.site, .int .i64 x.st.seq, .int .i64 x.kind, .int .i64 x.box.lo.x, .int .i64 x.box.lo.y, .int .i64 x.box.lo.z, .int .i64 x.box.hi.x, .int .i64 x.box.hi.y, .int .i64 x.box.hi.z, .int .i64 x.at_.x, .int .i64 x.at_.y, .int .i64 x.at_.z, .int .i64 x.turn, .int .i64 x.cell, .int .i64 x.size]] w fun e w' => e = .returned (.bool (formedE x)) ∧ Ext w w' := by
  have HF := Lib.hid (formedE_def x)
  have hv := fun w => Valid_any x.st w
  rw [h] at HF hv
  have HV := Lib.hid hv
  obtain ⟨st, kind, box, at_, turn, cell, size⟩ := x
  simp only at hk
  subst hk
  clear h hv
  have hqb := eqBx_run box zeroBx
  have hqp := eqPt_run at_ zeroPt
  simp only [zeroBx, zeroPt] at hqb hqp HF
  have hu1 : usesF 7 1 = true := rfl
  have hu2 : usesF 7 2 = false := rfl
  have hu4 : usesF 7 4 = false := rfl
  have hu8 : usesF 7 8 = false := rfl
  have hu16 : usesF 7 16 = true := rfl
  generalize decide (box = ⟨⟨0, 0, 0⟩, ⟨0, 0, 0⟩⟩) = eb at HF hqb
  generalize decide (at_ = ⟨0, 0, 0⟩) = ep at HF hqp
  simp only [hu1, hu2, hu4, hu8, hu16] at HF
  go_enter Tryd.func43, Tryd.ntmps43
  go_wp2_with (first | (go_at_call 52; refine (HV.out _).mono ?_; rintro e wx ⟨rfl, xx⟩; obtain ⟨xc, xf, xl, xe, xn, xm⟩ := xx.look; have xz := xx.size; (try simp only [World.size_alloc_] at xz); (try (have qh := xx.one (b := w.heap.size) (by (try simp only [World.size_alloc_]); omega); obtain ⟨qc, qf, ql, qe, qn, qm⟩ := qh)); (try (have qh := xx.one (b := w.heap.size + 1) (by (try simp only [World.size_alloc_]); omega); obtain ⟨qc, qf, ql, qe, qn, qm⟩ := qh)); (try (have qh := xx.one (b := w.heap.size + 1 + 1) (by (try simp only [World.size_alloc_]); omega); obtain ⟨qc, qf, ql, qe, qn, qm⟩ := qh)); (try (have qh := xx.one (b := w.heap.size + 1 + 1 + 1) (by (try simp only [World.size_alloc_]); omega); obtain ⟨qc, qf, ql, qe, qn, qm⟩ := qh))) | (go_at_call 53; refine (withinE_any _ _ _ _).mono ?_; rintro e wx ⟨rfl, xx⟩; obtain ⟨xc, xf, xl, xe, xn, xm⟩ := xx.look; have xz := xx.size; (try simp only [World.size_alloc_, World.size_setCell_] at xz); (try (have qh := xx.one (b := w.heap.size) (by (try simp only [World.size_alloc_, World.size_setCell_]); omega); obtain ⟨qc, qf, ql, qe, qn, qm⟩ := qh)); (try (have qh := xx.one (b := w.heap.size + 1) (by (try simp only [World.size_alloc_, World.size_setCell_]); omega); obtain ⟨qc, qf, ql, qe, qn, qm⟩ := qh)); (try (have qh := xx.one (b := w.heap.size + 1 + 1) (by (try simp only [World.size_alloc_, World.size_setCell_]); omega); obtain ⟨qc, qf, ql, qe, qn, qm⟩ := qh)); (try (have qh := xx.one (b := w.heap.size + 1 + 1 + 1) (by (try simp only [World.size_alloc_, World.size_setCell_]); omega); obtain ⟨qc, qf, ql, qe, qn, qm⟩ := qh))) | (go_at_call 54; refine (uses_any _ _ (by omega) (by omega) _ (hR.ext (by repeat (first | with_reducible exact Ext.refl _ | with_reducible assumption | with_reducible refine Ext.alloc ?_ _ | with_reducible refine Ext.drew ?_ | (with_reducible refine Ext.setCell ?_ ?_ _; rotate_left; focus (first | (simp; done) | (simp; omega) | omega)) | (with_reducible refine Ext.setRow ?_ ?_ _; rotate_left; focus (first | (simp; done) | (simp; omega) | omega)) | with_reducible refine Ext.trans ?_ (by with_reducible assumption))))).mono ?_; rintro e wx ⟨rfl, xx⟩; obtain ⟨xc, xf, xl, xe, xn, xm⟩ := xx.look; have xz := xx.size; (try simp only [World.size_alloc_, World.size_setCell_] at xz); (try (have qh := xx.one (b := w.heap.size) (by (try simp only [World.size_alloc_, World.size_setCell_]); omega); obtain ⟨qc, qf, ql, qe, qn, qm⟩ := qh)); (try (have qh := xx.one (b := w.heap.size + 1) (by (try simp only [World.size_alloc_, World.size_setCell_]); omega); obtain ⟨qc, qf, ql, qe, qn, qm⟩ := qh)); (try (have qh := xx.one (b := w.heap.size + 1 + 1) (by (try simp only [World.size_alloc_, World.size_setCell_]); omega); obtain ⟨qc, qf, ql, qe, qn, qm⟩ := qh)); (try (have qh := xx.one (b := w.heap.size + 1 + 1 + 1) (by (try simp only [World.size_alloc_, World.size_setCell_]); omega); obtain ⟨qc, qf, ql, qe, qn, qm⟩ := qh))))
  all_goals
    go_ret
    rw [HF.out]
    exact ⟨ret_bool (by first | (simp [*]; done) | (rw [Bool.eq_iff_iff]; simp [*])), (by repeat (first | with_reducible exact Ext.refl _ | with_reducible assumption | with_reducible refine Ext.alloc ?_ _ | with_reducible refine Ext.drew ?_ | (with_reducible refine Ext.setCell ?_ ?_ _; rotate_left; focus (first | (simp; done) | (simp; omega) | omega)) | (with_reducible refine Ext.setRow ?_ ?_ _; rotate_left; focus (first | (simp; done) | (simp; omega) | omega)) | with_reducible refine Ext.trans ?_ (by with_reducible assumption)))⟩

set_option maxHeartbeats 4000000 in
theorem Formed_8 (x : Ed) (w : World) (h : validS x.st = true) (hk : x.kind = 8) (hR : RowsIn w) :
    Calls Tryd.prog 43 #[.agg #[.int .i64 x.st.tick, .int .i64 x.st.clock, .int .i64 x.st.site, .int .i64 x.st.seq, .int .i64 x.kind, .int .i64 x.box.lo.x, .int .i64 x.box.lo.y, .int .i64 x.box.lo.z, .int .i64 x.box.hi.x, .int .i64 x.box.hi.y, .int .i64 x.box.hi.z, .int .i64 x.at_.x, .int .i64 x.at_.y, .int .i64 x.at_.z, .int .i64 x.turn, .int .i64 x.cell, .int .i64 x.size]] w fun e w' => e = .returned (.bool (formedE x)) ∧ Ext w w' := by
  have HF := Lib.hid (formedE_def x)
  have hv := fun w => Valid_any x.st w
  rw [h] at HF hv
  have HV := Lib.hid hv
  obtain ⟨st, kind, box, at_, turn, cell, size⟩ := x
  simp only at hk
  subst hk
  clear h hv
  have hqb := eqBx_run box zeroBx
  have hqp := eqPt_run at_ zeroPt
  simp only [zeroBx, zeroPt] at hqb hqp HF
  have hu1 : usesF 8 1 = false := rfl
  have hu2 : usesF 8 2 = false := rfl
  have hu4 : usesF 8 4 = false := rfl
  have hu8 : usesF 8 8 = false := rfl
  have hu16 : usesF 8 16 = true := rfl
  generalize decide (box = ⟨⟨0, 0, 0⟩, ⟨0, 0, 0⟩⟩) = eb at HF hqb
  generalize decide (at_ = ⟨0, 0, 0⟩) = ep at HF hqp
  simp only [hu1, hu2, hu4, hu8, hu16] at HF
  go_enter Tryd.func43, Tryd.ntmps43
  go_wp2_with (first | (go_at_call 52; refine (HV.out _).mono ?_; rintro e wx ⟨rfl, xx⟩; obtain ⟨xc, xf, xl, xe, xn, xm⟩ := xx.look; have xz := xx.size; (try simp only [World.size_alloc_] at xz); (try (have qh := xx.one (b := w.heap.size) (by (try simp only [World.size_alloc_]); omega); obtain ⟨qc, qf, ql, qe, qn, qm⟩ := qh)); (try (have qh := xx.one (b := w.heap.size + 1) (by (try simp only [World.size_alloc_]); omega); obtain ⟨qc, qf, ql, qe, qn, qm⟩ := qh)); (try (have qh := xx.one (b := w.heap.size + 1 + 1) (by (try simp only [World.size_alloc_]); omega); obtain ⟨qc, qf, ql, qe, qn, qm⟩ := qh)); (try (have qh := xx.one (b := w.heap.size + 1 + 1 + 1) (by (try simp only [World.size_alloc_]); omega); obtain ⟨qc, qf, ql, qe, qn, qm⟩ := qh))) | (go_at_call 53; refine (withinE_any _ _ _ _).mono ?_; rintro e wx ⟨rfl, xx⟩; obtain ⟨xc, xf, xl, xe, xn, xm⟩ := xx.look; have xz := xx.size; (try simp only [World.size_alloc_, World.size_setCell_] at xz); (try (have qh := xx.one (b := w.heap.size) (by (try simp only [World.size_alloc_, World.size_setCell_]); omega); obtain ⟨qc, qf, ql, qe, qn, qm⟩ := qh)); (try (have qh := xx.one (b := w.heap.size + 1) (by (try simp only [World.size_alloc_, World.size_setCell_]); omega); obtain ⟨qc, qf, ql, qe, qn, qm⟩ := qh)); (try (have qh := xx.one (b := w.heap.size + 1 + 1) (by (try simp only [World.size_alloc_, World.size_setCell_]); omega); obtain ⟨qc, qf, ql, qe, qn, qm⟩ := qh)); (try (have qh := xx.one (b := w.heap.size + 1 + 1 + 1) (by (try simp only [World.size_alloc_, World.size_setCell_]); omega); obtain ⟨qc, qf, ql, qe, qn, qm⟩ := qh))) | (go_at_call 54; refine (uses_any _ _ (by omega) (by omega) _ (hR.ext (by repeat (first | with_reducible exact Ext.refl _ | with_reducible assumption | with_reducible refine Ext.alloc ?_ _ | with_reducible refine Ext.drew ?_ | (with_reducible refine Ext.setCell ?_ ?_ _; rotate_left; focus (first | (simp; done) | (simp; omega) | omega)) | (with_reducible refine Ext.setRow ?_ ?_ _; rotate_left; focus (first | (simp; done) | (simp; omega) | omega)) | with_reducible refine Ext.trans ?_ (by with_reducible assumption))))).mono ?_; rintro e wx ⟨rfl, xx⟩; obtain ⟨xc, xf, xl, xe, xn, xm⟩ := xx.look; have xz := xx.size; (try simp only [World.size_alloc_, World.size_setCell_] at xz); (try (have qh := xx.one (b := w.heap.size) (by (try simp only [World.size_alloc_, World.size_setCell_]); omega); obtain ⟨qc, qf, ql, qe, qn, qm⟩ := qh)); (try (have qh := xx.one (b := w.heap.size + 1) (by (try simp only [World.size_alloc_, World.size_setCell_]); omega); obtain ⟨qc, qf, ql, qe, qn, qm⟩ := qh)); (try (have qh := xx.one (b := w.heap.size + 1 + 1) (by (try simp only [World.size_alloc_, World.size_setCell_]); omega); obtain ⟨qc, qf, ql, qe, qn, qm⟩ := qh)); (try (have qh := xx.one (b := w.heap.size + 1 + 1 + 1) (by (try simp only [World.size_alloc_, World.size_setCell_]); omega); obtain ⟨qc, qf, ql, qe, qn, qm⟩ := qh))))
  all_goals
    go_ret
    rw [HF.out]
    exact ⟨ret_bool (by first | (simp [*]; done) | (rw [Bool.eq_iff_iff]; simp [*])), (by repeat (first | with_reducible exact Ext.refl _ | with_reducible assumption | with_reducible refine Ext.alloc ?_ _ | with_reducible refine Ext.drew ?_ | (with_reducible refine Ext.setCell ?_ ?_ _; rotate_left; focus (first | (simp; done) | (simp; omega) | omega)) | (with_reducible refine Ext.setRow ?_ ?_ _; rotate_left; focus (first | (simp; done) | (simp; omega) | omega)) | with_reducible refine Ext.trans ?_ (by with_reducible assumption)))⟩

theorem Formed_any (x : Ed) (w : World) (hR : RowsIn w) :
    Calls Tryd.prog 43 #[.agg #[.int .i64 x.st.tick, .int .i64 x.st.clock, .int .i64 x.st.site, .int .i64 x.st.seq, .int .i64 x.kind, .int .i64 x.box.lo.x, .int .i64 x.box.lo.y, .int .i64 x.box.lo.z, .int .i64 x.box.hi.x, .int .i64 x.box.hi.y, .int .i64 x.box.hi.z, .int .i64 x.at_.x, .int .i64 x.at_.y, .int .i64 x.at_.z, .int .i64 x.turn, .int .i64 x.cell, .int .i64 x.size]] w fun e w' => e = .returned (.bool (formedE x)) ∧ Ext w w' := by
  by_cases h : validS x.st = false ∨ ¬ (1 ≤ x.kind ∧ x.kind ≤ 8)
  · have hf : formedE x = false := by
      unfold formedE
      rcases h with h | h
      · simp [h]
      · rw [decide_eq_false h]; simp
    rw [hf]
    exact Formed_bad x w h
  · have hv : validS x.st = true := by
      cases hq : validS x.st
      · exact absurd (.inl hq) h
      · rfl
    have hk : 1 ≤ x.kind ∧ x.kind ≤ 8 := Classical.byContradiction fun hh => h (.inr hh)
    obtain hk | hk | hk | hk | hk | hk | hk | hk : x.kind = 1 ∨ x.kind = 2 ∨ x.kind = 3 ∨ x.kind = 4 ∨ x.kind = 5 ∨ x.kind = 6 ∨ x.kind = 7 ∨ x.kind = 8 := by omega
    · exact Formed_1 x w hv hk hR
    · exact Formed_2 x w hv hk hR
    · exact Formed_3 x w hv hk hR
    · exact Formed_4 x w hv hk hR
    · exact Formed_5 x w hv hk hR
    · exact Formed_6 x w hv hk hR
    · exact Formed_7 x w hv hk hR
    · exact Formed_8 x w hv hk hR
end Go.Proofs.YtcfebfblmmbeaaaDoor

/- history.Name, history.byName. -/
namespace Go.Proofs.YtcfebfblmmbeaaaDoor
open Go Go.RowKit

def nmV (n : Nm) : Value := .agg #[.int .i64 n.site, .int .i64 n.seq]
theorem ktNm : KeyT Tryd.prog 24 nmV where
  agg p := ⟨_, rfl⟩
  kind := ⟨_, Tryd.underlying24⟩
  eq x y w := by
    obtain ⟨a1, a2⟩ := x
    obtain ⟨b1, b2⟩ := y
    unfold Op.equal nmV
    rw [show Op.maxDepth = 9999 + 1 from rfl, run_equalIn_struct w _ _ _ _ (by kernel_rfl) (by kernel_rfl)]
    rw [show (9999 : Nat) = 9998 + 1 from rfl]
    simp [go_sem]
    by_cases h1 : a1 = b1
    · by_cases h2 : a2 = b2 <;> simp [h1, h2]
    · simp [h1]
  chk b x w := by
    cases b <;> kernel_rfl
  same x := by
    unfold nmV
    simp [Instr.sameBits]
  inj x y h := by
    obtain ⟨a1, a2⟩ := x
    obtain ⟨b1, b2⟩ := y
    unfold nmV at h
    simpa using h
theorem wpList_lookup_F {P : Program} {K : Type} [DecidableEq K] {t T e : TypeId} {enc : K → Value} {w : World} {ops : Array Oper} {rest : List Oper} {o : Oper} {a : Act} {Q : Exit → Act → World → Prop} (hg : o.guard = none) (mo x : Operand) (cm : Bool) (hop : o.op = .lookup T mo x cm)
    {b : Nat} {m : K → Option Value} (h : MapF enc w b m) (kt : KeyT P t enc) (ht : P.underlying T = some (.map t e)) {z : Value} (hz : (zeroValue e).run P w = .ok z w) (q : K) (u : Value) (hm : a.eval mo = .map (some b)) (hx : a.eval x = enc q)
    (hu : (if cm then .tuple #[(m q).getD z, .bool (m q).isSome] else (m q).getD z) = u)
    (hK : wpList P ops Q rest (a.put o.dst u) w) : wpList P ops Q (o :: rest) a w := by
  refine wpList_plain hg fun K' hK' => ?_
  have hrun := h.look kt ht hz q cm
  rw [hu] at hrun
  unfold Oper.wp
  simp [execOp, hop, hm, hx, hrun, Result.andThen]
  exact hK' _ _ hK
theorem map_ne_own {K : Type} [DecidableEq K] {enc : K → Value} {w : World} {b : Nat} {m : K → Option Value} {base n k : Nat} {e : TypeId} {v : Value} {zs : List Value} (h : MapF enc w b m) (O : w.ownsRow base e k v n zs) : v.ownBlock ≠ some b := fun hb => by
  obtain ⟨es, clock, ents, h1, _⟩ := h
  rcases O.2 with ⟨rfl, _⟩ | ⟨g, cap, cur, rfl, _, hg, _⟩
  · simp [Value.ownBlock] at hb
  · simp only [Value.ownBlock, Option.some.injEq] at hb
    subst hb
    rw [h1] at hg
    cases hg
theorem own_bltH {w : World} {base n k : Nat} {e : TypeId} {v : Value} {zs : List Value} (h : w.ownsRow base e k v n zs) (b : Nat) (hb : v.ownBlock = some b) : b < w.heap.size := by
  rcases h.2 with ⟨rfl, _⟩ | ⟨g, cap, cur, rfl, _, hg, _⟩
  · simp [Value.ownBlock] at hb
  · simp only [Value.ownBlock, Option.some.injEq] at hb
    subst hb
    exact (Array.getElem?_eq_some_iff.1 hg).1
theorem own_ne_arrH {w : World} {base n k fb : Nat} {e t : TypeId} {v : Value} {zs vs : List Value} (O : w.ownsRow base e k v n zs) (B : Arr w fb t vs) (hne : e ≠ t) : v.ownBlock ≠ some fb := fun h => by
  rcases O.2 with ⟨rfl, _⟩ | ⟨g, cap, cur, rfl, _, hg, _⟩
  · simp [Value.ownBlock] at h
  · simp only [Value.ownBlock, Option.some.injEq] at h
    subst h
    unfold Arr at B
    rw [hg] at B
    injection B with B
    injection B with _ B _
    exact hne B
theorem Arr.kept {w w' : World} {b : Nat} {t : TypeId} {vs : List Value} {row : Option Nat} (h : Arr w b t vs) (hg : w.grownBy w' row) (hr : row ≠ some b) : Arr w' b t vs := (hg.block b h.lt (fun e => hr e.symm)).trans h
theorem CompactNm_any (l : List Nm) (v : Value) (base : Nat) (w : World) (ho : w.ownsRow base 24 2 v l.length (rowsN l).flatten) (hl : LeR befN l) (hb : l.length ≤ 1034834473200) :
    Calls Tryd.prog 46 #[v] w fun e w' => ∃ (m : List Nm) (A : Option Addr) (c : Nat), Srt befN m ∧ (∀ q, q ∈ m ↔ q ∈ l) ∧ e = .returned (.slice A m.length c) ∧ w'.ownsRow base 24 2 (.slice A m.length c) m.length (rowsN m).flatten ∧ w.grownBy w' v.ownBlock := by
  rcases ho.2 with ⟨rfl, h0⟩ | ⟨g, cap, cur, rfl, hg, hgg, _⟩
  · have hl0 : l = [] := List.eq_nil_of_length_eq_zero h0
    subst hl0
    refine (CompactNm_none w).mono ?_
    rintro e w' ⟨rfl, rfl⟩
    exact ⟨[], none, 0, List.Pairwise.nil, fun q => Iff.rfl, rfl, World.ownsRow_nil _ _ _ _, grown_refl _ _⟩
  · refine (CompactNm_own g cap base l w ho hl hb).mono ?_
    rintro e w' ⟨m, h1, h2, h3, h4, h5⟩
    exact ⟨m, _, _, h1, h2, h3, h4, h5⟩
set_option maxHeartbeats 1000000 in
theorem Name_any (x : Ed) (w : World) :
    Calls Tryd.prog 24 #[.agg #[.int .i64 x.st.tick, .int .i64 x.st.clock, .int .i64 x.st.site, .int .i64 x.st.seq, .int .i64 x.kind, .int .i64 x.box.lo.x, .int .i64 x.box.lo.y, .int .i64 x.box.lo.z, .int .i64 x.box.hi.x, .int .i64 x.box.hi.y, .int .i64 x.box.hi.z, .int .i64 x.at_.x, .int .i64 x.at_.y, .int .i64 x.at_.z, .int .i64 x.turn, .int .i64 x.cell, .int .i64 x.size]] w fun e w' => e = .returned (nmV (nmE x)) ∧ Ext w w' := by
  have B0 := (Arr.new w 32 [.int .i64 x.st.tick, .int .i64 x.st.clock, .int .i64 x.st.site, .int .i64 x.st.seq, .int .i64 x.kind, .int .i64 x.box.lo.x, .int .i64 x.box.lo.y, .int .i64 x.box.lo.z, .int .i64 x.box.hi.x, .int .i64 x.box.hi.y, .int .i64 x.box.hi.z, .int .i64 x.at_.x, .int .i64 x.at_.y, .int .i64 x.at_.z, .int .i64 x.turn, .int .i64 x.cell, .int .i64 x.size]).alloc (.cells #[.int .i64 0, .int .i64 0] 24)
  have B1 := Arr.new (w.alloc (.cells #[.int .i64 x.st.tick, .int .i64 x.st.clock, .int .i64 x.st.site, .int .i64 x.st.seq, .int .i64 x.kind, .int .i64 x.box.lo.x, .int .i64 x.box.lo.y, .int .i64 x.box.lo.z, .int .i64 x.box.hi.x, .int .i64 x.box.hi.y, .int .i64 x.box.hi.z, .int .i64 x.at_.x, .int .i64 x.at_.y, .int .i64 x.at_.z, .int .i64 x.turn, .int .i64 x.cell, .int .i64 x.size] 32)) 24 [.int .i64 0, .int .i64 0]
  rw [World.size_alloc_] at B1
  have hx0 : Ext w ((w.alloc (.cells #[.int .i64 x.st.tick, .int .i64 x.st.clock, .int .i64 x.st.site, .int .i64 x.st.seq, .int .i64 x.kind, .int .i64 x.box.lo.x, .int .i64 x.box.lo.y, .int .i64 x.box.lo.z, .int .i64 x.box.hi.x, .int .i64 x.box.hi.y, .int .i64 x.box.hi.z, .int .i64 x.at_.x, .int .i64 x.at_.y, .int .i64 x.at_.z, .int .i64 x.turn, .int .i64 x.cell, .int .i64 x.size] 32)).alloc (.cells #[.int .i64 0, .int .i64 0] 24)) := ((Ext.refl w).alloc _).alloc _
  have HB1 := Lib.hid B1; have HX0 := Lib.hid hx0
  have d2 := B0.cell 2
  have d3 := B0.cell 3
  have db := B0.lt
  simp only [List.getElem?_cons_zero, List.getElem?_cons_succ] at d2 d3
  clear B0 B1 hx0
  go_enter Tryd.func24, Tryd.ntmps24
  go_upto_region 1 with fail
  obtain ⟨W0, hW⟩ : ∃ W, W = (w.alloc (.cells #[.int .i64 x.st.tick, .int .i64 x.st.clock, .int .i64 x.st.site, .int .i64 x.st.seq, .int .i64 x.kind, .int .i64 x.box.lo.x, .int .i64 x.box.lo.y, .int .i64 x.box.lo.z, .int .i64 x.box.hi.x, .int .i64 x.box.hi.y, .int .i64 x.box.hi.z, .int .i64 x.at_.x, .int .i64 x.at_.y, .int .i64 x.at_.z, .int .i64 x.turn, .int .i64 x.cell, .int .i64 x.size] 32)).alloc (.cells #[.int .i64 0, .int .i64 0] 24) := ⟨_, rfl⟩
  rw [← hW] at HB1 HX0 d2 d3 db
  rw [← hW]
  clear hW
  go_wp2_with (refine wpList_store_blk 24 (.tmp 2) (.tmp 9) rfl rfl HB1.out [.int .i64 x.st.site, .int .i64 x.st.seq] rfl rfl (by kernel_rfl) rfl rfl ?_)
  have hfin := HB1.out.setRow [.int .i64 x.st.site, .int .i64 x.st.seq]
  have hxf := HX0.out.setRow (g := w.heap.size + 1) (by omega) ([.int .i64 x.st.site, .int .i64 x.st.seq] : List Value).toArray
  refine bodyPost_ret (v := nmV (nmE x)) ?_ rfl ⟨rfl, hxf⟩
  exact results_cell_row Tryd.results24 _ _ _ _ _ _ _ rfl hfin Tryd.underlying24 rfl (by kernel_rfl)
/-- The map's reading of a function of names. -/
def mapE (F : Nm → Option Ed) (n : Nm) : Option Value := (F n).map fun x => .agg x.cells.toArray
theorem mapE_upd (F : Nm → Option Ed) (x : Ed) (n q : Nm) : (if q = n then some (.agg x.cells.toArray) else mapE F q) = mapE (updK F n x) q := by
  unfold mapE updK
  split <;> rfl
def RetBy (l : List Ed) (w : World) (en : Ending) (w' : World) : Prop :=
  ∃ bm F f A c, en = .returned (.tuple #[.map (some bm), .slice A f.length c]) ∧ MapF nmV w' bm (mapE F) ∧ SaysM (SetP l) F ∧ IsForks l f ∧ Sv w' w'.heap.size 2 A c (rowsN f) ∧ Ext w w' ∧ w.heap.size ≤ bm
end Go.Proofs.YtcfebfblmmbeaaaDoor

/- slices.Backward at names: what it hands back can be ranged over: each element, the last one first. -/
namespace Go.Proofs.YtcfebfblmmbeaaaDoor
open Go Go.RowKit

attribute [local go_sem] Oper.semAt_some

section
variable {α : Type}
/-- What has come when the indices down to k are over. -/
def bk (l : List α) (k : Nat) : List (Nat × α) := ((l.zipIdx.drop k).reverse).map fun p => (p.2, p.1)
theorem bk_end (l : List α) : bk l l.length = [] := by simp [bk]
theorem bk_down {l : List α} {k : Nat} {x : α} (h : l[k]? = some x) : bk l k = bk l (k + 1) ++ [(k, x)] := by
  obtain ⟨hk, rfl⟩ := List.getElem?_eq_some_iff.1 h
  unfold bk
  rw [List.drop_eq_getElem_cons (by simpa using hk), List.reverse_cons, List.map_append]
  simp
theorem bk_length (l : List α) (k : Nat) : (bk l k).length = l.length - k := by simp [bk]
theorem bk_mem {l : List α} {k j : Nat} {x : α} : (j, x) ∈ bk l k ↔ k ≤ j ∧ l[j]? = some x := by
  unfold bk
  rw [List.mem_map]
  constructor
  · rintro ⟨⟨y, i⟩, h1, h2⟩
    injection h2 with h2 h3
    subst h2 h3
    rw [List.mem_reverse] at h1
    obtain ⟨m, hm⟩ := List.getElem?_of_mem h1
    rw [List.getElem?_drop, List.getElem?_zipIdx] at hm
    obtain ⟨z, hz, he⟩ := Option.map_eq_some_iff.1 hm
    injection he with h4 h5
    subst h4 h5
    exact ⟨by omega, by simpa using hz⟩
  · rintro ⟨h1, h2⟩
    refine ⟨(x, j), ?_, rfl⟩
    rw [List.mem_reverse]
    refine List.mem_of_getElem? (i := j - k) ?_
    rw [List.getElem?_drop, List.getElem?_zipIdx, show k + (j - k) = j by omega, h2]
    simp
theorem bk_le (l : List α) (k : Nat) : bk l k <+: bk l 0 := by
  unfold bk
  refine List.IsPrefix.map _ ?_
  rw [List.reverse_prefix, List.drop_zero]
  exact List.drop_suffix _ _
/-- A start of what comes is what has come at some index. -/
theorem bk_prefix {l : List α} {p : List (Nat × α)} (h : p <+: bk l 0) : p = bk l (l.length - p.length) := by
  have h1 : bk l (l.length - p.length) <+: bk l 0 := by
    unfold bk
    refine List.IsPrefix.map _ ?_
    rw [List.reverse_prefix, List.drop_zero]
    exact List.drop_suffix _ _
  have h2 := h.length_le
  rw [bk_length] at h2
  refine List.IsPrefix.eq_of_length_le (List.prefix_of_prefix_length_le h h1 (by rw [bk_length]; omega)) (by rw [bk_length]; omega)
end
/-- What a round keeps: what lay below n₀, and the block Bs. -/
def KpB (n₀ Bs : Nat) (W W' : World) : Prop := Below n₀ W W' ∧ W'.heap[Bs]? = W.heap[Bs]?
theorem KpB.refl (n₀ Bs : Nat) (W : World) : KpB n₀ Bs W W := ⟨Below.refl _ _, rfl⟩
theorem KpB.trans {n₀ Bs : Nat} {A B C : World} (h : KpB n₀ Bs A B) (k : KpB n₀ Bs B C) : KpB n₀ Bs A C := ⟨h.1.trans k.1, k.2.trans h.2⟩
theorem KpB.cell {n₀ Bs j : Nat} {A B : World} (h : KpB n₀ Bs A B) {v : Value} (hv : A.cell? ⟨Bs, j, none⟩ = some v) : B.cell? ⟨Bs, j, none⟩ = some v := by
  rw [World.cell?_of_block (w := A) (w' := B) (a := ⟨Bs, j, none⟩) h.2]; exact hv
theorem KpB.put {n₀ Bs : Nat} {w : World} (hn : n₀ ≤ w.heap.size) (hb : Bs < w.heap.size) (W : World) (l : Nat) (o o' : Obj) (hl : w.heap.size ≤ l) (h : W.heap[l]? = some o) (hc : o.isCells = false) (hw : o.isWalk = false) : KpB n₀ Bs W (W.putObj l o') :=
  ⟨belowK_b hn W l o o' hl h hc hw, World.putObj_heap_other (by omega)⟩
set_option maxRecDepth 100000 in
set_option maxHeartbeats 4000000 in
theorem backNm1_in (p : Nm → Prop) (l Bs n₀ c : Nat) (A : Option Addr) (us : List {q : Nm // p q}) (hb : us.length ≤ 1034834473200) (J Jx : List (Nat × {q : Nm // p q}) → World → Prop)
    (hY : ∀ pre x W, J pre W → pre.length < us.length → YieldAt Fence.wide 3 Tryd.prog l #[.int .i64 (x.1 : Int), .agg x.2.1.cells.toArray] W fun e W' =>
      (e = .returned (.bool true) ∧ J (pre ++ [x]) W' ∧ KpB n₀ Bs W W') ∨ (e = .returned (.bool false) ∧ Jx (pre ++ [x]) W'))
    (W : World) (hBs : W.cell? ⟨Bs, 0, none⟩ = some (.slice A us.length c)) (hS : Sv W n₀ 2 A c (rowsN (us.map (·.1)))) (h0 : J [] W) :
    CallsIn Fence.wide 4 Tryd.prog 59 #[.func (.yield l) #[] #[], .pointer (some ⟨Bs, 0, none⟩)] W fun e W' => (∃ v, e = .returned v) ∧
      ((∃ ys, ys = bk us 0 ∧ J ys W') ∨ (∃ pre, pre <+: bk us 0 ∧ Jx pre W')) := by
  have HS := Lib.hid hS
  clear hS
  refine callsIn_of_wp Tryd.func59 rfl trivial ?_ rfl
  simp only [Tryd.ntmps59, List.size_toArray, List.length_cons, List.length_nil, Nat.reduceAdd, Nat.reduceSub, Array.replicate_succ, Array.replicate_zero, List.push_toArray, List.append_toArray, List.nil_append, List.cons_append]
  gi_wp2
  gi_loopw [3] (fun i wr => ∃ k : Nat, k ≤ us.length ∧ i = .int .i64 ((k : Int) - 1) ∧ J (bk us k) wr ∧ KpB n₀ Bs W wr)
    (fun i _ => (intOf i + 1).toNat)
  case atStart => exact ⟨us.length, Nat.le_refl _, rfl, by rw [bk_end]; exact h0, KpB.refl _ _ _⟩
  case round =>
    obtain ⟨k, hk, rfl, hJs, hkp⟩ := hrel
    have hbs := hkp.cell hBs
    cases k with
    | zero =>
      gi_wp2
      go_end0
      exact ⟨⟨_, rfl⟩, .inl ⟨_, rfl, hJs⟩⟩
    | succ k =>
      obtain ⟨x, hx⟩ : ∃ x, us[k]? = some x := ⟨_, List.getElem?_eq_getElem (by omega)⟩
      obtain ⟨b, off, rfl, hbl, hc0, hc1⟩ := nm_row (p := x.1) HS.out (by rw [List.getElem?_map, hx]; rfl)
      have hc0' := (hkp.1.cell (p := ⟨b, off + k * 2, none⟩) hbl).trans hc0
      have hc1' := (hkp.1.cell (p := ⟨b, off + k * 2 + 1, none⟩) hbl).trans hc1
      obtain ⟨fn, tmps, assign, body, hy, hR⟩ := hY _ (k, x) wr hJs (by rw [bk_length]; omega)
      dsimp only [Nm.cells] at hy
      have hx2 := bk_down hx
      have hkk : ((k + 1 : Nat) : Int) - 1 = (k : Int) := by omega
      rw [hkk]
      have hk0 : 0 ≤ (k : Int) := by omega
      have hk1 : ¬ ((us.length : Int) ≤ (k : Int)) := by omega
      have hk2 : k < us.length := by omega
      have hwk : IntKind.i64.wrap ((k : Int) - 1) = (k : Int) - 1 := by rw [IntKind.wrap_i64]; omega
      have HX2 := Lib.hid hx2
      clear hx2 hx hc0 hc1 hkk
      gi_wp2
      refine hR.mono ?_
      rintro e W3 (⟨rfl, hJ3, hk3⟩ | ⟨rfl, hJx3⟩)
      · gi_wp2
        go_roundw
        case rel => exact ⟨k, by omega, rfl, by rw [HX2.out]; exact hJ3, hkp.trans hk3⟩
        case measure => simp [intOf]
      · gi_wp2
        refine bodyPost_ret (results_none rfl _ _ _) rfl ?_
        exact ⟨⟨_, rfl⟩, .inr ⟨_, by rw [← HX2.out]; exact bk_le _ _, hJx3⟩⟩
theorem backNm_stops (p : Nm → Prop) (Bs n₀ c : Nat) (A : Option Addr) (us : List {q : Nm // p q}) (hb : us.length ≤ 1034834473200) (w : World) (hB : Bs < w.heap.size) (hn : n₀ ≤ w.heap.size)
    (hc : w.cell? ⟨Bs, 0, none⟩ = some (.slice A us.length c)) (hS : Sv w n₀ 2 A c (rowsN (us.map (·.1)))) :
    SeqStopsK Fence.wide 4 Tryd.prog 59 #[.pointer (some ⟨Bs, 0, none⟩)] (fun x : Nat × {q : Nm // p q} => #[.int .i64 (x.1 : Int), .agg x.2.1.cells.toArray]) (KpB n₀ Bs) (fun ys => ys = bk us 0) (fun pre => pre <+: bk us 0) us.length w := fun l J Jx W hW _ _ hY h0 =>
  backNm1_in p l Bs n₀ c A us hb J Jx hY W ((hW.cell (p := ⟨Bs, 0, none⟩) hB).trans hc) (hS.keep fun _q hq => hW.cell (Nat.lt_of_lt_of_le hq hn)) h0
theorem Backward_any (A : Option Addr) (n c : Nat) (w : World) :
    Calls Tryd.prog 47 #[.slice A n c] w fun e w' => e = .returned (.func (.func 59) #[] #[.pointer (some ⟨w.heap.size, 0, none⟩)]) ∧ w' = w.alloc (.cells #[.slice A n c] 41) := by
  go_enter Tryd.func47, Tryd.ntmps47
  go_wp2
  go_ret
  exact ⟨rfl, rfl⟩
end Go.Proofs.YtcfebfblmmbeaaaDoor

/- history.byName. -/
namespace Go.Proofs.YtcfebfblmmbeaaaDoor
open Go Go.RowKit

/-- The state of the first pass. -/
structure BySt (l : List Ed) (w : World) (bm : Nat) (k : Nat) (F : Nm → Option Ed) (fk : List Nm) (ov : Value) (n : Nat) (wr : World) : Prop where
  map : MapF nmV wr bm (mapE F)
  row : wr.ownsRow w.heap.size 24 2 ov n (rowsN fk).flatten
  len : fk.length = n
  bn : BN (l.take k) F fk
  ext : Ext w wr
  le : n ≤ k
theorem BySt.more {l : List Ed} {w : World} {bm k : Nat} {F : Nm → Option Ed} {fk : List Nm} {ov : Value} {n : Nat} {wr w2 : World} (h : BySt l w bm k F fk ov n wr) (hx : Ext wr w2) : BySt l w bm k F fk ov n w2 :=
  ⟨h.map.ext hx, own_ext h.row hx, h.len, h.bn, h.ext.trans hx, h.le⟩
set_option maxRecDepth 100000 in
set_option maxHeartbeats 8000000 in
theorem byName_any (A : Option Addr) (c : Nat) (l : List Ed) (w : World) (hs : Sv w w.heap.size 17 A c (rowsE l)) (hb : l.length ≤ 1034834473200) (hR : RowsIn w) :
    Calls Tryd.prog 31 #[.slice A l.length c] w (RetBy l w) := by
  obtain ⟨i0, hi, hz0, hz1, hz2⟩ := info_parts infoNm
  have HI := Lib.hid hi; have HZ := Lib.hid hz0; have HZ1 := Lib.hid hz1; have HZ2 := Lib.hid hz2; clear hi hz0 hz1 hz2
  have HM0 := Lib.hid (MapF.made (enc := nmV) w)
  have HX0 := Lib.hid (show Ext w (w.alloc (.map #[] 0)) from (Ext.refl w).alloc _)
  have HS := Lib.hid hs; have HRW := Lib.hid hR; clear hs hR
  have hln : l.length ≤ 9223372036854775807 := by omega
  have hmm := @run_makeMap Tryd.prog
  go_enter Tryd.func31, Tryd.ntmps31
  go_upto_region 3 with fail
  obtain ⟨bm, hbm⟩ : ∃ bm, bm = w.heap.size := ⟨_, rfl⟩
  obtain ⟨W0, hW⟩ : ∃ W, W = w.alloc (.map #[] 0) := ⟨_, rfl⟩
  rw [← hW, ← hbm] at HM0
  rw [← hW] at HX0
  rw [← hW, ← hbm]
  have HBM := Lib.hid (show w.heap.size ≤ bm by omega)
  clear hW hbm hmm
  go_wp2_with fail
  go_loopw [5, 16] (fun ov i wr => ∃ (k n : Nat) (F : Nm → Option Ed) (fk : List Nm), i = .int .i64 k ∧ k ≤ l.length ∧ BySt l w bm k F fk ov n wr) (fun _ i _ => l.length - (intOf i).toNat)
  case atStart => exact ⟨0, 0, fun _ => none, [], rfl, Nat.zero_le _, ⟨HM0.out, World.ownsRow_nil _ _ _ _, rfl, BN.start, HX0.out, Nat.le_refl _⟩⟩
  case round =>
    obtain ⟨k, n, F, fk, rfl, hk, hst⟩ := hrel
    have HST := Lib.hid hst
    obtain ⟨A1, c1, rfl, _⟩ := own_form hst.row
    by_cases hlt : k < l.length
    · obtain ⟨x, hx⟩ : ∃ x, l[k]? = some x := ⟨_, List.getElem?_eq_getElem hlt⟩
      obtain ⟨b, off, rfl, hbl, hra⟩ := ed_row HS.out hx
      have HRA := Lib.hid (rangeAt_ext hra hbl hst.ext)
      have htk : l.take (k + 1) = l.take k ++ [x] := take_snocR hx
      have HT := Lib.hid htk
      clear hx hst hra hbl htk
      go_upto_region 6 with (first
        | (with_reducible refine wpList_load_mid rfl 32 (.tmp 18) rfl b (off + k * 17) rfl x.cells _ HRA.out Tryd.underlying32 rfl (by kernel_rfl) ?_)
        | (refine wpList_store_blk 32 (.tmp 7) (.tmp 19) rfl rfl (Arr.new wr 32 [.int .i64 0, .int .i64 0, .int .i64 0, .int .i64 0, .int .i64 0, .int .i64 0, .int .i64 0, .int .i64 0, .int .i64 0, .int .i64 0, .int .i64 0, .int .i64 0, .int .i64 0, .int .i64 0, .int .i64 0, .int .i64 0, .int .i64 0]) x.cells rfl rfl (by kernel_rfl) rfl rfl ?_))
      have hB := (Arr.new wr 32 [.int .i64 0, .int .i64 0, .int .i64 0, .int .i64 0, .int .i64 0, .int .i64 0, .int .i64 0, .int .i64 0, .int .i64 0, .int .i64 0, .int .i64 0, .int .i64 0, .int .i64 0, .int .i64 0, .int .i64 0, .int .i64 0, .int .i64 0]).setRow x.cells
      have hx1 : Ext wr ((wr.alloc (.cells ([.int .i64 0, .int .i64 0, .int .i64 0, .int .i64 0, .int .i64 0, .int .i64 0, .int .i64 0, .int .i64 0, .int .i64 0, .int .i64 0, .int .i64 0, .int .i64 0, .int .i64 0, .int .i64 0, .int .i64 0, .int .i64 0, .int .i64 0] : List Value).toArray 32)).setRow wr.heap.size x.cells.toArray) := ((Ext.refl wr).alloc _).setRow (Nat.le_refl _) _
      obtain ⟨b7, hb7⟩ : ∃ b7, b7 = wr.heap.size := ⟨_, rfl⟩
      obtain ⟨W1, hW⟩ : ∃ W, W = (wr.alloc (.cells ([.int .i64 0, .int .i64 0, .int .i64 0, .int .i64 0, .int .i64 0, .int .i64 0, .int .i64 0, .int .i64 0, .int .i64 0, .int .i64 0, .int .i64 0, .int .i64 0, .int .i64 0, .int .i64 0, .int .i64 0, .int .i64 0, .int .i64 0] : List Value).toArray 32)).setRow wr.heap.size x.cells.toArray := ⟨_, rfl⟩
      have hW' : W1 = (wr.alloc (.cells #[.int .i64 0, .int .i64 0, .int .i64 0, .int .i64 0, .int .i64 0, .int .i64 0, .int .i64 0, .int .i64 0, .int .i64 0, .int .i64 0, .int .i64 0, .int .i64 0, .int .i64 0, .int .i64 0, .int .i64 0, .int .i64 0, .int .i64 0] 32)).setRow wr.heap.size x.cells.toArray := hW
      rw [← hW, ← hb7] at hB
      rw [← hW] at hx1
      rw [← hW', ← hb7]
      have HB7 := Lib.hid hB; have HST := Lib.hid (HST.out.more hx1)
      clear hW hW' hb7 hB hx1 HRA
      have HF := Lib.hid (Formed_any x W1 (HRW.out.ext HST.out.ext))
      cases hf : formedE x
      · rw [hf] at HF
        have HBN := Lib.hid (show BN (l.take (k + 1)) F fk by rw [HT.out]; exact HST.out.bn.skip hf)
        clear hf
        go_wp2_with (first
          | (refine wpList_load_blk 32 (.tmp 7) rfl rfl HB7.out rfl _ Tryd.underlying32 rfl (by kernel_rfl) ?_)
          | (go_at_call 43; refine HF.out.mono ?_; rintro e W2 ⟨rfl, x2⟩))
        go_roundw
        case rel => exact ⟨k + 1, n, F, fk, by go_num, by omega, ⟨HST.out.map.ext x2, own_ext HST.out.row x2, HST.out.len, HBN.out, HST.out.ext.trans x2, by have := HST.out.le; omega⟩⟩
        case measure => simp [intOf]; omega
      · rw [hf] at HF
        have HFX := Lib.hid hf
        clear hf
        go_upto_region 7 with (first
          | (refine wpList_load_blk 32 (.tmp 7) rfl rfl HB7.out rfl _ Tryd.underlying32 rfl (by kernel_rfl) ?_)
          | (go_at_call 43; refine HF.out.mono ?_; rintro e W2 ⟨rfl, x2⟩))
        have HB7 := Lib.hid (HB7.out.ext x2); have HST := Lib.hid (HST.out.more x2)
        clear x2 HF
        have HNM := Lib.hid (Name_any x W2)
        go_upto_region 8 with (first
          | (refine wpList_load_blk 32 (.tmp 7) rfl rfl HB7.out rfl _ Tryd.underlying32 rfl (by kernel_rfl) ?_)
          | (go_at_call 24; refine HNM.out.mono ?_; rintro e W3 ⟨rfl, x3⟩)
          | (refine wpList_store_blk 24 (.tmp 8) (.tmp 24) rfl rfl (Arr.new W3 24 [.int .i64 0, .int .i64 0]) [.int .i64 x.st.site, .int .i64 x.st.seq] rfl rfl (by kernel_rfl) rfl rfl ?_))
        have hB := (Arr.new W3 24 [.int .i64 0, .int .i64 0]).setRow [.int .i64 x.st.site, .int .i64 x.st.seq]
        have hx1 : Ext W3 ((W3.alloc (.cells ([.int .i64 0, .int .i64 0] : List Value).toArray 24)).setRow W3.heap.size ([.int .i64 x.st.site, .int .i64 x.st.seq] : List Value).toArray) := ((Ext.refl W3).alloc _).setRow (Nat.le_refl _) _
        obtain ⟨b8, hb8⟩ : ∃ b8, b8 = W3.heap.size := ⟨_, rfl⟩
        obtain ⟨W4, hW⟩ : ∃ W, W = (W3.alloc (.cells ([.int .i64 0, .int .i64 0] : List Value).toArray 24)).setRow W3.heap.size ([.int .i64 x.st.site, .int .i64 x.st.seq] : List Value).toArray := ⟨_, rfl⟩
        have hW' : W4 = (W3.alloc (.cells #[.int .i64 0, .int .i64 0] 24)).setRow W3.heap.size #[.int .i64 x.st.site, .int .i64 x.st.seq] := hW
        rw [← hW, ← hb8] at hB
        rw [← hW] at hx1
        rw [← hW', ← hb8]
        have hx3 := x3.trans hx1
        have HB8 := Lib.hid hB; have HB7 := Lib.hid (HB7.out.ext hx3)
        have HNE := Lib.hid (show (Value.slice A1 n c1).ownBlock ≠ some b8 from fun e => by have h1 := own_bltH HST.out.row b8 e; have h2 := x3.size; omega)
        have HST := Lib.hid (HST.out.more hx3)
        clear hW hW' hb8 hB hx1 x3 hx3 HNM
        cases hF : F (nmE x) with
        | none =>
          have HBN := Lib.hid (show BN (l.take (k + 1)) (updK F (nmE x) x) fk by rw [HT.out]; exact HST.out.bn.new HFX.out hF)
          have HU := Lib.hid (show (if true = true then Value.tuple #[(mapE F (nmE x)).getD (.agg #[.int .i64 0, .int .i64 0, .int .i64 0, .int .i64 0, .int .i64 0, .int .i64 0, .int .i64 0, .int .i64 0, .int .i64 0, .int .i64 0, .int .i64 0, .int .i64 0, .int .i64 0, .int .i64 0, .int .i64 0, .int .i64 0, .int .i64 0]), .bool (mapE F (nmE x)).isSome] else (mapE F (nmE x)).getD (.agg #[.int .i64 0, .int .i64 0, .int .i64 0, .int .i64 0, .int .i64 0, .int .i64 0, .int .i64 0, .int .i64 0, .int .i64 0, .int .i64 0, .int .i64 0, .int .i64 0, .int .i64 0, .int .i64 0, .int .i64 0, .int .i64 0, .int .i64 0])) = .tuple #[.agg #[.int .i64 0, .int .i64 0, .int .i64 0, .int .i64 0, .int .i64 0, .int .i64 0, .int .i64 0, .int .i64 0, .int .i64 0, .int .i64 0, .int .i64 0, .int .i64 0, .int .i64 0, .int .i64 0, .int .i64 0, .int .i64 0, .int .i64 0], .bool false] by unfold mapE; rw [hF]; rfl)
          clear hF
          go_upto_region 9 with (first
            | (refine wpList_load_blk 24 (.tmp 8) rfl rfl HB8.out rfl _ Tryd.underlying24 rfl (by kernel_rfl) ?_)
            | (refine wpList_lookup_F rfl (.tmp 26) (.tmp 27) true rfl HST.out.map ktNm Tryd.underlying51 (zeroEdV _) (nmE x) _ rfl rfl HU.out ?_)
            | (refine wpList_store_blk 32 (.tmp 9) (.tmp 29) rfl rfl (Arr.new W4 32 [.int .i64 0, .int .i64 0, .int .i64 0, .int .i64 0, .int .i64 0, .int .i64 0, .int .i64 0, .int .i64 0, .int .i64 0, .int .i64 0, .int .i64 0, .int .i64 0, .int .i64 0, .int .i64 0, .int .i64 0, .int .i64 0, .int .i64 0]) [.int .i64 0, .int .i64 0, .int .i64 0, .int .i64 0, .int .i64 0, .int .i64 0, .int .i64 0, .int .i64 0, .int .i64 0, .int .i64 0, .int .i64 0, .int .i64 0, .int .i64 0, .int .i64 0, .int .i64 0, .int .i64 0, .int .i64 0] rfl rfl (by kernel_rfl) rfl rfl ?_))
          have hB := (Arr.new W4 32 [.int .i64 0, .int .i64 0, .int .i64 0, .int .i64 0, .int .i64 0, .int .i64 0, .int .i64 0, .int .i64 0, .int .i64 0, .int .i64 0, .int .i64 0, .int .i64 0, .int .i64 0, .int .i64 0, .int .i64 0, .int .i64 0, .int .i64 0]).setRow [.int .i64 0, .int .i64 0, .int .i64 0, .int .i64 0, .int .i64 0, .int .i64 0, .int .i64 0, .int .i64 0, .int .i64 0, .int .i64 0, .int .i64 0, .int .i64 0, .int .i64 0, .int .i64 0, .int .i64 0, .int .i64 0, .int .i64 0]
          have hx1 : Ext W4 ((W4.alloc (.cells ([.int .i64 0, .int .i64 0, .int .i64 0, .int .i64 0, .int .i64 0, .int .i64 0, .int .i64 0, .int .i64 0, .int .i64 0, .int .i64 0, .int .i64 0, .int .i64 0, .int .i64 0, .int .i64 0, .int .i64 0, .int .i64 0, .int .i64 0] : List Value).toArray 32)).setRow W4.heap.size ([.int .i64 0, .int .i64 0, .int .i64 0, .int .i64 0, .int .i64 0, .int .i64 0, .int .i64 0, .int .i64 0, .int .i64 0, .int .i64 0, .int .i64 0, .int .i64 0, .int .i64 0, .int .i64 0, .int .i64 0, .int .i64 0, .int .i64 0] : List Value).toArray) := ((Ext.refl W4).alloc _).setRow (Nat.le_refl _) _
          obtain ⟨b9, hb9⟩ : ∃ b9, b9 = W4.heap.size := ⟨_, rfl⟩
          obtain ⟨W5, hW⟩ : ∃ W, W = (W4.alloc (.cells ([.int .i64 0, .int .i64 0, .int .i64 0, .int .i64 0, .int .i64 0, .int .i64 0, .int .i64 0, .int .i64 0, .int .i64 0, .int .i64 0, .int .i64 0, .int .i64 0, .int .i64 0, .int .i64 0, .int .i64 0, .int .i64 0, .int .i64 0] : List Value).toArray 32)).setRow W4.heap.size ([.int .i64 0, .int .i64 0, .int .i64 0, .int .i64 0, .int .i64 0, .int .i64 0, .int .i64 0, .int .i64 0, .int .i64 0, .int .i64 0, .int .i64 0, .int .i64 0, .int .i64 0, .int .i64 0, .int .i64 0, .int .i64 0, .int .i64 0] : List Value).toArray := ⟨_, rfl⟩
          have hW' : W5 = (W4.alloc (.cells #[.int .i64 0, .int .i64 0, .int .i64 0, .int .i64 0, .int .i64 0, .int .i64 0, .int .i64 0, .int .i64 0, .int .i64 0, .int .i64 0, .int .i64 0, .int .i64 0, .int .i64 0, .int .i64 0, .int .i64 0, .int .i64 0, .int .i64 0] 32)).setRow W4.heap.size #[.int .i64 0, .int .i64 0, .int .i64 0, .int .i64 0, .int .i64 0, .int .i64 0, .int .i64 0, .int .i64 0, .int .i64 0, .int .i64 0, .int .i64 0, .int .i64 0, .int .i64 0, .int .i64 0, .int .i64 0, .int .i64 0, .int .i64 0] := hW
          rw [← hW, ← hb9] at hB
          rw [← hW] at hx1
          rw [← hW', ← hb9]
          have HB9 := Lib.hid hB; have HB7 := Lib.hid (HB7.out.ext hx1); have HB8 := Lib.hid (HB8.out.ext hx1); have HST := Lib.hid (HST.out.more hx1)
          clear hW hW' hb9 hB hx1 HU
          go_upto_region 11 with fail
          go_wp2_with (first
            | (refine wpList_load_blk 24 (.tmp 8) rfl rfl HB8.out rfl _ Tryd.underlying24 rfl (by kernel_rfl) ?_)
            | (refine wpList_load_blk 32 (.tmp 7) rfl rfl HB7.out rfl _ Tryd.underlying32 rfl (by kernel_rfl) ?_)
            | (refine wpList_mapUpdate_F rfl (.tmp 41) (.tmp 42) (.tmp 43) rfl HST.out.map ktNm Tryd.underlying51 (nmE x) (.agg x.cells.toArray) rfl rfl rfl ?_; intro W8 hm8 hg8))
          have HST8 := Lib.hid (show BySt l w bm (k + 1) (updK F (nmE x) x) fk (.slice A1 n c1) n W8 from ⟨hm8.cong (mapE_upd F x (nmE x)), own_keep HST.out.row hg8 (fun b hb hbb => map_ne_own HST.out.map HST.out.row (by rw [hbb, hb])), HST.out.len, HBN.out, HST.out.ext.grown hg8 (fun k hk => by injection hk with hk; have := HBM.out; omega), by have := HST.out.le; omega⟩)
          clear hm8 hg8
          go_roundw
          case rel => exact ⟨k + 1, n, updK F (nmE x) x, fk, by go_num, by omega, HST8.out⟩
          case measure => simp [intOf]; omega
        | some y =>
          have HU := Lib.hid (show (if true = true then Value.tuple #[(mapE F (nmE x)).getD (.agg #[.int .i64 0, .int .i64 0, .int .i64 0, .int .i64 0, .int .i64 0, .int .i64 0, .int .i64 0, .int .i64 0, .int .i64 0, .int .i64 0, .int .i64 0, .int .i64 0, .int .i64 0, .int .i64 0, .int .i64 0, .int .i64 0, .int .i64 0]), .bool (mapE F (nmE x)).isSome] else (mapE F (nmE x)).getD (.agg #[.int .i64 0, .int .i64 0, .int .i64 0, .int .i64 0, .int .i64 0, .int .i64 0, .int .i64 0, .int .i64 0, .int .i64 0, .int .i64 0, .int .i64 0, .int .i64 0, .int .i64 0, .int .i64 0, .int .i64 0, .int .i64 0, .int .i64 0])) = .tuple #[.agg y.cells.toArray, .bool true] by unfold mapE; rw [hF]; rfl)
          have hn := neqEd_run y x
          generalize hbb : decide (y ≠ x) = bb at hn
          have HBB := Lib.hid hbb; have HFF := Lib.hid hF
          clear hbb hF
          go_upto_region 9 with (first
            | (refine wpList_load_blk 24 (.tmp 8) rfl rfl HB8.out rfl _ Tryd.underlying24 rfl (by kernel_rfl) ?_)
            | (refine wpList_lookup_F rfl (.tmp 26) (.tmp 27) true rfl HST.out.map ktNm Tryd.underlying51 (zeroEdV _) (nmE x) _ rfl rfl HU.out ?_)
            | (refine wpList_store_blk 32 (.tmp 9) (.tmp 29) rfl rfl (Arr.new W4 32 [.int .i64 0, .int .i64 0, .int .i64 0, .int .i64 0, .int .i64 0, .int .i64 0, .int .i64 0, .int .i64 0, .int .i64 0, .int .i64 0, .int .i64 0, .int .i64 0, .int .i64 0, .int .i64 0, .int .i64 0, .int .i64 0, .int .i64 0]) y.cells rfl rfl (by kernel_rfl) rfl rfl ?_))
          have hB := (Arr.new W4 32 [.int .i64 0, .int .i64 0, .int .i64 0, .int .i64 0, .int .i64 0, .int .i64 0, .int .i64 0, .int .i64 0, .int .i64 0, .int .i64 0, .int .i64 0, .int .i64 0, .int .i64 0, .int .i64 0, .int .i64 0, .int .i64 0, .int .i64 0]).setRow y.cells
          have hx1 : Ext W4 ((W4.alloc (.cells ([.int .i64 0, .int .i64 0, .int .i64 0, .int .i64 0, .int .i64 0, .int .i64 0, .int .i64 0, .int .i64 0, .int .i64 0, .int .i64 0, .int .i64 0, .int .i64 0, .int .i64 0, .int .i64 0, .int .i64 0, .int .i64 0, .int .i64 0] : List Value).toArray 32)).setRow W4.heap.size (y.cells : List Value).toArray) := ((Ext.refl W4).alloc _).setRow (Nat.le_refl _) _
          obtain ⟨b9, hb9⟩ : ∃ b9, b9 = W4.heap.size := ⟨_, rfl⟩
          obtain ⟨W5, hW⟩ : ∃ W, W = (W4.alloc (.cells ([.int .i64 0, .int .i64 0, .int .i64 0, .int .i64 0, .int .i64 0, .int .i64 0, .int .i64 0, .int .i64 0, .int .i64 0, .int .i64 0, .int .i64 0, .int .i64 0, .int .i64 0, .int .i64 0, .int .i64 0, .int .i64 0, .int .i64 0] : List Value).toArray 32)).setRow W4.heap.size (y.cells : List Value).toArray := ⟨_, rfl⟩
          have hW' : W5 = (W4.alloc (.cells #[.int .i64 0, .int .i64 0, .int .i64 0, .int .i64 0, .int .i64 0, .int .i64 0, .int .i64 0, .int .i64 0, .int .i64 0, .int .i64 0, .int .i64 0, .int .i64 0, .int .i64 0, .int .i64 0, .int .i64 0, .int .i64 0, .int .i64 0] 32)).setRow W4.heap.size y.cells.toArray := hW
          rw [← hW, ← hb9] at hB
          rw [← hW] at hx1
          rw [← hW', ← hb9]
          have HB9 := Lib.hid hB; have HB7 := Lib.hid (HB7.out.ext hx1); have HB8 := Lib.hid (HB8.out.ext hx1); have HST := Lib.hid (HST.out.more hx1)
          clear hW hW' hb9 hB hx1 HU
          cases bb
          · have hyx : y = x := by simpa using HBB.out
            have HBN := Lib.hid (show BN (l.take (k + 1)) (updK F (nmE x) x) fk by rw [HT.out]; exact HST.out.bn.again (by rw [HFF.out, hyx]))
            clear hyx
            go_upto_region 11 with (first
              | (refine wpList_load_blk 32 (.tmp 9) rfl rfl HB9.out rfl _ Tryd.underlying32 rfl (by kernel_rfl) ?_)
              | (refine wpList_load_blk 32 (.tmp 7) rfl rfl HB7.out rfl _ Tryd.underlying32 rfl (by kernel_rfl) ?_))
            clear hn
            go_wp2_with (first
              | (refine wpList_load_blk 24 (.tmp 8) rfl rfl HB8.out rfl _ Tryd.underlying24 rfl (by kernel_rfl) ?_)
              | (refine wpList_load_blk 32 (.tmp 7) rfl rfl HB7.out rfl _ Tryd.underlying32 rfl (by kernel_rfl) ?_)
              | (refine wpList_mapUpdate_F rfl (.tmp 41) (.tmp 42) (.tmp 43) rfl HST.out.map ktNm Tryd.underlying51 (nmE x) (.agg x.cells.toArray) rfl rfl rfl ?_; intro W8 hm8 hg8))
            have HST8 := Lib.hid (show BySt l w bm (k + 1) (updK F (nmE x) x) fk (.slice A1 n c1) n W8 from ⟨hm8.cong (mapE_upd F x (nmE x)), own_keep HST.out.row hg8 (fun b hb hbb => map_ne_own HST.out.map HST.out.row (by rw [hbb, hb])), HST.out.len, HBN.out, HST.out.ext.grown hg8 (fun k hk => by injection hk with hk; have := HBM.out; omega), by have := HST.out.le; omega⟩)
            clear hm8 hg8
            go_roundw
            case rel => exact ⟨k + 1, n, updK F (nmE x) x, fk, by go_num, by omega, HST8.out⟩
            case measure => simp [intOf]; omega
          · have hyx : y ≠ x := by simpa using HBB.out
            have HBN := Lib.hid (show BN (l.take (k + 1)) (updK F (nmE x) x) (fk ++ [nmE x]) by rw [HT.out]; exact HST.out.bn.fork HFX.out HFF.out hyx)
            clear hyx
            go_upto_region 10 with (first
              | (refine wpList_load_blk 32 (.tmp 9) rfl rfl HB9.out rfl _ Tryd.underlying32 rfl (by kernel_rfl) ?_)
              | (refine wpList_load_blk 32 (.tmp 7) rfl rfl HB7.out rfl _ Tryd.underlying32 rfl (by kernel_rfl) ?_))
            clear hn
            have hx6 : Ext W5 (W5.alloc (.cells ([.int .i64 x.st.site, .int .i64 x.st.seq] : List Value).toArray 24)) := (Ext.refl _).alloc _
            have HSN := Lib.hid (show Sv (W5.alloc (.cells ([.int .i64 x.st.site, .int .i64 x.st.seq] : List Value).toArray 24)) (W5.alloc (.cells ([.int .i64 x.st.site, .int .i64 x.st.seq] : List Value).toArray 24)).heap.size 2 (some ⟨W5.heap.size, 0, none⟩) 1 (rowsN [nmE x]) from
              ⟨by simp [rowsN], by decide, rowsN_rwk _, fun _ => ⟨W5.heap.size, 0, rfl, by simp, fun j u hu => by
                rw [Nat.zero_add, cell_of_row _ _ _ _ _ _ (heap_alloc_new W5 _)]
                simpa [rowsN, Nm.cells, nmE] using hu⟩⟩)
            have HST6 := Lib.hid (HST.out.more hx6)
            have hnk : n ≤ 1034834473200 := by have := HST.out.le; omega
            have HX6 := Lib.hid hx6
            clear hx6
            go_upto_region 11 with (first
              | (refine wpList_load_blk 24 (.tmp 8) rfl rfl HB8.out rfl _ Tryd.underlying24 rfl (by kernel_rfl) ?_)
              | (refine wpList_buildRow rfl 41 24 39 rfl 2 (by decide) (by decide) ([.int .i64 x.st.site, .int .i64 x.st.seq]) rfl rfl Tryd.underlying41 (by kernel_rfl) (by kernel_rfl) ?_)
              | (at_builtin; refine wpList_append_sv _ rfl (.tmp 37) (.tmp 39) 41 rfl w.heap.size 24 i0 (.agg #[.int .i64 0, .int .i64 0]) 2 16 Tryd.underlying41 HI.out HZ.out HZ1.out HZ2.out rfl (by decide) _ n _ rfl HST6.out.row _ _ 1 1 (rowsN [nmE x]) rfl HSN.out rfl (by unfold maxLen; omega) (by omega) HST6.out.ext.size ?_; intro v6 W6 g1 g2 _))
            have HMP := Lib.hid (HST6.out.map.kept g2 (fun e => map_ne_own HST6.out.map HST6.out.row e))
            have HRO := Lib.hid (show W6.ownsRow w.heap.size 24 2 v6 (n + 1) (rowsN (fk ++ [nmE x])).flatten by rw [rowsN_append, List.flatten_append]; exact g1)
            have HXX := Lib.hid (HST6.out.ext.own HST6.out.row g2 (Nat.le_refl _))
            have HB7 := Lib.hid ((HB7.out.ext HX6.out).kept g2 (own_ne_arrH HST6.out.row (HB7.out.ext HX6.out) (by decide)))
            have HB8 := Lib.hid ((HB8.out.ext HX6.out).kept g2 HNE.out)
            obtain ⟨A6, c6, rfl, _⟩ := own_form HRO.out
            clear g1 g2
            go_wp2_with (first
              | (refine wpList_load_blk 24 (.tmp 8) rfl rfl HB8.out rfl _ Tryd.underlying24 rfl (by kernel_rfl) ?_)
              | (refine wpList_load_blk 32 (.tmp 7) rfl rfl HB7.out rfl _ Tryd.underlying32 rfl (by kernel_rfl) ?_)
              | (refine wpList_mapUpdate_F rfl (.tmp 41) (.tmp 42) (.tmp 43) rfl HMP.out ktNm Tryd.underlying51 (nmE x) (.agg x.cells.toArray) rfl rfl rfl ?_; intro W8 hm8 hg8))
            have HST8 := Lib.hid (show BySt l w bm (k + 1) (updK F (nmE x) x) (fk ++ [nmE x]) (.slice A6 (n + 1) c6) (n + 1) W8 from ⟨hm8.cong (mapE_upd F x (nmE x)), own_keep HRO.out hg8 (fun b hb hbb => map_ne_own HMP.out HRO.out (by rw [hbb, hb])), by rw [List.length_append, HST.out.len]; rfl, HBN.out, HXX.out.grown hg8 (fun k hk => by injection hk with hk; have := HBM.out; omega), by have := HST.out.le; omega⟩)
            clear hm8 hg8
            go_roundw
            case rel => exact ⟨k + 1, n + 1, updK F (nmE x) x, fk ++ [nmE x], by go_num, by omega, HST8.out⟩
            case measure => simp [intOf]; omega
    · obtain rfl : k = l.length := by omega
      have hbn := hst.bn
      rw [List.take_length] at hbn
      have HBN := Lib.hid hbn
      have hfl := hst.len
      subst hfl
      have HSO := Lib.hid (SortNm_any fk _ w.heap.size wr hst.row (by have := hst.le; omega))
      clear hst hbn
      go_upto_region 14 with (go_at_call 44; refine HSO.out.mono ?_; rintro e W2 ⟨rfl, ho2, hg2⟩)
      have HM2 := Lib.hid (HST.out.map.kept hg2 (fun e => map_ne_own HST.out.map HST.out.row e))
      have HX2 := Lib.hid (HST.out.ext.own HST.out.row hg2 (Nat.le_refl _))
      have hsl := srtR_length (r := befN) fk
      have HFM := Lib.hid (fun q => (srtR_mem (r := befN) fk q).trans (HBN.out.frk q))
      have hfk : fk.length ≤ 1034834473200 := by have := HST.out.le; omega
      have HCO := Lib.hid (CompactNm_any (srtR befN fk) (.slice A1 fk.length c1) w.heap.size W2 (by rw [hsl]; exact ho2) (srtR_le ordN fk) (by rw [hsl]; exact hfk))
      have HO2X := Lib.hid ho2
      clear ho2 hg2 hsl HSO
      go_upto_region 15 with (go_at_call 46; refine HCO.out.mono ?_; rintro e W3 ⟨f, A3, c3, hfs, hfm, rfl, ho3, hg3⟩)
      have HO2 := Lib.hid (show W2.ownsRow w.heap.size 24 2 (.slice A1 fk.length c1) fk.length (rowsN (srtR befN fk)).flatten from HO2X.out)
      have HM3 := Lib.hid (HM2.out.kept hg3 (fun e => map_ne_own HM2.out HO2.out e))
      have HX3 := Lib.hid (HX2.out.own HO2.out hg3 (Nat.le_refl _))
      have HO3 := Lib.hid ho3
      have HFK := Lib.hid (show IsForks l f from ⟨hfs, fun q => (hfm q).trans (HFM.out q)⟩)
      have hfl3 : f.length ≤ 1034834473200 := by
        have h1 := nodup_le (l := f) (m := fk) (hfs.nodup ordN) (fun q hq => (srtR_mem (r := befN) fk q).1 ((hfm q).1 hq))
        omega
      have HBF := Lib.hid (show BN l F f from ⟨HBN.out.val, HBN.out.has, HFK.out.mem⟩)
      clear ho3 hg3 hfs hfm HCO HO2X
      go_wp2_with fail
      go_loopw [51] (fun i w4 => ∃ k : Nat, i = .int .i64 k ∧ k ≤ f.length ∧ MapF nmV w4 bm (mapE fun n => if n ∈ f.take k then none else F n) ∧ w4.ownsRow w.heap.size 24 2 (.slice A3 f.length c3) f.length (rowsN f).flatten ∧ Ext w w4) (fun i _ => f.length - (intOf i).toNat)
      case atStart => exact ⟨0, rfl, Nat.zero_le _, HM3.out.cong (fun q => by simp), HO3.out, HX3.out⟩
      case round =>
        obtain ⟨k, rfl, hk2, hm4, ho4, hx4⟩ := hrel
        have HM4 := Lib.hid hm4; have HO4 := Lib.hid ho4; have HX4 := Lib.hid hx4
        have hsv := Sv.of_own ho4 (rowsN_rwk f) (rowsN_length f)
        clear hm4 ho4 hx4
        by_cases hlt : k < f.length
        · obtain ⟨x, hx⟩ : ∃ x, f[k]? = some x := ⟨_, List.getElem?_eq_getElem hlt⟩
          obtain ⟨b, off, rfl, hbl, r0, r1⟩ := nm_row hsv hx
          have htk : f.take (k + 1) = f.take k ++ [x] := take_snocR hx
          have HT := Lib.hid htk
          have HNB := Lib.hid (show (Value.slice (some ⟨b, off, none⟩) f.length c3).ownBlock ≠ some bm from map_ne_own HM4.out HO4.out)
          clear hx htk hsv
          go_upto_region 18 with (refine wpList_store_blk 24 (.tmp 12) (.tmp 54) rfl rfl (Arr.new wr 24 [.int .i64 0, .int .i64 0]) [.int .i64 x.site, .int .i64 x.seq] rfl rfl (by kernel_rfl) rfl rfl ?_)
          have hB := (Arr.new wr 24 [.int .i64 0, .int .i64 0]).setRow [.int .i64 x.site, .int .i64 x.seq]
          have hx1 : Ext wr ((wr.alloc (.cells ([.int .i64 0, .int .i64 0] : List Value).toArray 24)).setRow wr.heap.size ([.int .i64 x.site, .int .i64 x.seq] : List Value).toArray) := ((Ext.refl wr).alloc _).setRow (Nat.le_refl _) _
          obtain ⟨b8, hb8⟩ : ∃ b8, b8 = wr.heap.size := ⟨_, rfl⟩
          obtain ⟨W5, hW⟩ : ∃ W, W = (wr.alloc (.cells ([.int .i64 0, .int .i64 0] : List Value).toArray 24)).setRow wr.heap.size ([.int .i64 x.site, .int .i64 x.seq] : List Value).toArray := ⟨_, rfl⟩
          have hW' : W5 = (wr.alloc (.cells #[.int .i64 0, .int .i64 0] 24)).setRow wr.heap.size #[.int .i64 x.site, .int .i64 x.seq] := hW
          rw [← hW, ← hb8] at hB
          rw [← hW] at hx1
          rw [← hW', ← hb8]
          have HB8 := Lib.hid hB; have HM5 := Lib.hid (HM4.out.ext hx1); have HO5 := Lib.hid (own_ext HO4.out hx1); have HX5 := Lib.hid (HX4.out.trans hx1)
          clear hW hW' hb8 hB hx1 r0 r1 hbl
          go_wp2_with (first
            | (refine wpList_load_blk 24 (.tmp 12) rfl rfl HB8.out rfl _ Tryd.underlying24 rfl (by kernel_rfl) ?_)
            | (refine wpList_delete_F rfl (.tmp 55) (.tmp 56) rfl HM5.out ktNm Tryd.underlying51 x rfl rfl ?_; intro W6 hm6 hg6))
          have HM6 := Lib.hid (hm6.cong (m' := mapE fun n => if n ∈ f.take (k + 1) then none else F n) (fun q => by
            rw [HT.out]
            unfold mapE
            simp only [List.mem_append, List.mem_singleton]
            by_cases h1 : q = x <;> by_cases h2 : q ∈ f.take k <;> simp [h1, h2]))
          have HO6 := Lib.hid (own_keep HO5.out hg6 (fun b' hb hbb => HNB.out (by rw [hbb, hb])))
          have HX6 := Lib.hid (HX5.out.grown hg6 (fun k hk => by injection hk with hk; have := HBM.out; omega))
          clear hm6 hg6
          go_roundw
          case rel => exact ⟨k + 1, by go_num, by omega, HM6.out, HO6.out, HX6.out⟩
          case measure => simp [intOf]; omega
        · obtain rfl : k = f.length := by omega
          go_wp2
          go_ret2
          have hm := HM4.out
          rw [List.take_length] at hm
          exact ⟨bm, _, f, A3, c3, rfl, hm, HBF.out.set, HFK.out, hsv, HX4.out, HBM.out⟩
end Go.Proofs.YtcfebfblmmbeaaaDoor

/- A slice literal of one row. -/
namespace Go.Proofs.YtcfebfblmmbeaaaDoor
open Go Go.RowKit

theorem wpList_buildRow {P : Program} {ops : Array Oper} {rest : List Oper} {o : Oper} {a : Act} {w : World} {Q : Exit → Act → World → Prop} (hg : o.guard = none) (t e : TypeId) (s : Nat) (ho : o.op = .buildSlice t 1 #[(0, .tmp s)])
    (k : Nat) (hk : 0 < k) (hk2 : k ≤ 1000) (x : List Value) (hx : x.length = k) (hs : a.eval (.tmp s) = .agg x.toArray) (hu : P.underlying t = some (.slice e)) (hi : (P.info? e).map (·.size) = some k) (hz : ((P.info? e).bind (·.zero)).isSome = true)
    (h : wpList P ops Q rest (a.put o.dst (.slice (some ⟨w.heap.size, 0, none⟩) 1 1)) (w.alloc (.cells x.toArray e))) : wpList P ops Q (o :: rest) a w := by
  cases hie : P.info? e with
  | none => simp [hie] at hi
  | some ie =>
    have hsz : ie.size = k := by simpa [hie] using hi
    obtain ⟨z, hzz⟩ := Option.isSome_iff_exists.1 (by simpa [hie] using hz : (ie.zero).isSome = true)
    refine wpList_buildSlice hg t e 1 _ ho _ ie z hu hie hzz (by rw [hsz]; omega) (by rw [hsz]; omega) ?_ h
    have hf := Great.fill_whole (s := k) hk [.agg x.toArray] ((Array.range (1 * k)).map (z.cells[· % z.cells.size]!)) (fun v hv => by
      simp only [List.mem_singleton] at hv
      subst hv
      simpa [Value.cells] using hx) (by simp)
    rw [hsz]
    simp only [List.map_toArray, List.map_cons, List.map_nil, hs]
    simpa [Value.cells] using hf
end Go.Proofs.YtcfebfblmmbeaaaDoor

/- history.sorted, Set, Forks. -/
namespace Go.Proofs.YtcfebfblmmbeaaaDoor
open Go Go.RowKit

def lenV : Value → Nat
  | .slice _ n _ => n
  | _ => 0
theorem rng_ne_own {K : Type} [DecidableEq K] {enc : K → Value} {w : World} {b r : Nat} {m : K → Option Value} {left : List K} {last : Option K} {base n k : Nat} {e : TypeId} {v : Value} {zs : List Value} (h : RngF enc w b r m left last) (O : w.ownsRow base e k v n zs) : v.ownBlock ≠ some r := fun hb => by
  obtain ⟨es, clock, seen, ents, _, h2, _⟩ := h
  rcases O.2 with ⟨rfl, _⟩ | ⟨g, cap, cur, rfl, _, hg, _⟩
  · simp [Value.ownBlock] at hb
  · simp only [Value.ownBlock, Option.some.injEq] at hb
    subst hb
    rw [h2] at hg
    cases hg
/-- It hands back a slice of edits that can be read. -/
def RetE (l : List Ed) (w : World) (en : Ending) (w' : World) : Prop :=
  ∃ A c, en = .returned (.slice A l.length c) ∧ Sv w' w'.heap.size 17 A c (rowsE l) ∧ Ext w w'
theorem SaysM.val {M : Ed → Prop} {F : Nm → Option Ed} (h : SaysM M F) {q : Nm} {v : Value} (hv : mapE F q = some v) : ∃ x, M x ∧ nmE x = q ∧ v = .agg x.cells.toArray := by
  unfold mapE at hv
  obtain ⟨x, h1, h2⟩ := Option.map_eq_some_iff.1 hv
  obtain ⟨h3, h4⟩ := (h q x).1 h1
  exact ⟨x, h3, h4, h2.symm⟩
/-- What a range over the map has met. -/
structure Met (M : Ed → Prop) (left : List Nm) (o : List Ed) : Prop where
  nd : o.Nodup
  mem : ∀ x, x ∈ o ↔ M x ∧ nmE x ∉ left
theorem Met.step {M : Ed → Prop} (g : GoodM M) {left : List Nm} {o : List Ed} (h : Met M left o) (hl : left.Nodup) {x : Ed} (hx : M x) (hq : nmE x ∈ left) : Met M (left.erase (nmE x)) (o ++ [x]) where
  nd := by
    rw [List.nodup_append]
    refine ⟨h.nd, by simp, fun y hy z hz e => ?_⟩
    simp at hz
    subst hz e
    exact ((h.mem y).1 hy).2 hq
  mem y := by
    rw [List.mem_append, List.mem_singleton, h.mem, hl.mem_erase_iff]
    constructor
    · rintro (⟨h1, h2⟩ | rfl)
      · exact ⟨h1, fun h3 => h2 h3.2⟩
      · exact ⟨hx, fun h3 => h3.1 rfl⟩
    · rintro ⟨h1, h2⟩
      by_cases h3 : nmE y ∈ left
      · by_cases h4 : nmE y = nmE x
        · exact .inr (g.name h1 hx h4)
        · exact absurd ⟨h4, h3⟩ h2
      · exact .inl ⟨h1, h3⟩
set_option maxRecDepth 100000 in
set_option maxHeartbeats 4000000 in
theorem sorted_any (bm : Nat) (M : Ed → Prop) (F : Nm → Option Ed) (w : World) (g : GoodM M) (hm : MapF nmV w bm (mapE F)) (hF : SaysM M F) (hfin : ∀ o : List Ed, o.Nodup → (∀ x, x ∈ o → M x) → o.length ≤ 1034834473200) :
    Calls Tryd.prog 38 #[.map (some bm)] w fun e w' => ∃ m, Srt befE m ∧ (∀ x, x ∈ m ↔ M x) ∧ RetE m w e w' := by
  obtain ⟨i0, hi, hz0, hz1, hz2⟩ := info_parts infoEd
  have HI := Lib.hid hi; have HZ := Lib.hid hz0; have HZ1 := Lib.hid hz1; have HZ2 := Lib.hid hz2; clear hi hz0 hz1 hz2
  have HM := Lib.hid hm; clear hm
  go_enter Tryd.func38, Tryd.ntmps38
  go_wp2_with (at_range; refine wpList_range_F rfl (.tmp 6) rfl HM.out Tryd.underlying51 rfl ?_; intro left0 W0 hl0 hr0 hx0)
  obtain ⟨r, hr⟩ : ∃ r, r = w.heap.size := ⟨_, rfl⟩
  rw [← hr] at hr0
  (try rw [← hr])
  have HRB := Lib.hid (show w.heap.size ≤ r by omega)
  clear hr
  go_frame
  go_loopw [3] (fun ov wr => ∃ (o : List Ed) (n : Nat) (left : List Nm) (last : Option Nm), o.length = n ∧ n ≤ 1034834473200 ∧ Met M left o ∧ RngF nmV wr bm r (mapE F) left last ∧ wr.ownsRow w.heap.size 32 17 ov n (rowsE o).flatten ∧ Ext w wr) (fun ov _ => 1034834473201 - lenV ov)
  case atStart => exact ⟨[], 0, left0, none, rfl, by omega, ⟨List.nodup_nil, fun x => ⟨fun h => (by cases h), fun ⟨h1, h2⟩ => absurd ((hl0 _).2 (by have := (hF (nmE x) x).2 ⟨h1, rfl⟩; unfold mapE; rw [this]; rfl)) h2⟩⟩, hr0, World.ownsRow_nil _ _ _ _, hx0⟩
  case round =>
    obtain ⟨o, n, left, last, hon, hn, hmet, hrg, ho, hx⟩ := hrel
    have HO := Lib.hid ho; have HX := Lib.hid hx; have HME := Lib.hid hmet; have HON := Lib.hid hon; have HRG := Lib.hid hrg
    obtain ⟨A1, c1, rfl, _⟩ := own_form ho
    clear ho hx hmet hon hrg
    go_wp2_with (at_next; refine wpList_next_F rfl (.tmp 7) rfl HRG.out rfl ?_ ?_)
    · intro hl0
      have HMM := Lib.hid (show ∀ x, x ∈ o ↔ M x from fun x => by rw [HME.out.mem, hl0]; simp)
      have HSO := Lib.hid (SortedEd_any A1 c1 o wr (Sv.of_own HO.out (rowsE_rwk o) (by rw [rowsE_length, HON.out])) (by rw [HON.out]; omega))
      rw [HON.out] at HSO
      clear hl0
      go_wp2_with (go_at_call 49; refine HSO.out.mono ?_; rintro e W2 ⟨m, v2, hm2, rfl, ho2, hx2⟩)
      go_ret
      obtain ⟨A2, c2, rfl, _⟩ := own_form ho2
      exact ⟨m, hm2.srt, fun x => (hm2.mem x).trans (HMM.out x), A2, c2, rfl, Sv.of_own ho2 (rowsE_rwk m) (rowsE_length m), HX.out.trans hx2⟩
    · intro q v W1 hq hv hrg1 hg1 hs1 hen
      obtain ⟨x, hMx, rfl, rfl⟩ := hF.val hv
      have hn1 : n + 1 ≤ 1034834473200 := by
        have h := hfin (o ++ [x]) (HME.out.step g HRG.out.nodup hMx hq).nd (fun y hy => by
          rcases List.mem_append.1 hy with h1 | h1
          · exact ((HME.out.mem y).1 h1).1
          · rw [List.mem_singleton] at h1; rw [h1]; exact hMx)
        rw [List.length_append, HON.out] at h
        simpa using h
      have HME2 := Lib.hid (HME.out.step g HRG.out.nodup hMx hq)
      have HRG2 := Lib.hid hrg1
      have HX1 := Lib.hid (HX.out.grown hg1 (fun k hk => by injection hk with hk; have := HRB.out; omega))
      have HO1 := Lib.hid (own_keep HO.out hg1 (fun b hb hbb => rng_ne_own HRG.out HO.out (by rw [hbb, hb])))
      clear hrg1 hg1 hs1 hq hv
      go_upto_region 5 with (refine wpList_store_blk 32 (.tmp 5) (.tmp 11) rfl rfl (Arr.new W1 32 [.int .i64 0, .int .i64 0, .int .i64 0, .int .i64 0, .int .i64 0, .int .i64 0, .int .i64 0, .int .i64 0, .int .i64 0, .int .i64 0, .int .i64 0, .int .i64 0, .int .i64 0, .int .i64 0, .int .i64 0, .int .i64 0, .int .i64 0]) x.cells rfl rfl (by kernel_rfl) rfl rfl ?_)
      have hB := (Arr.new W1 32 [.int .i64 0, .int .i64 0, .int .i64 0, .int .i64 0, .int .i64 0, .int .i64 0, .int .i64 0, .int .i64 0, .int .i64 0, .int .i64 0, .int .i64 0, .int .i64 0, .int .i64 0, .int .i64 0, .int .i64 0, .int .i64 0, .int .i64 0]).setRow x.cells
      have hx1 : Ext W1 ((W1.alloc (.cells ([.int .i64 0, .int .i64 0, .int .i64 0, .int .i64 0, .int .i64 0, .int .i64 0, .int .i64 0, .int .i64 0, .int .i64 0, .int .i64 0, .int .i64 0, .int .i64 0, .int .i64 0, .int .i64 0, .int .i64 0, .int .i64 0, .int .i64 0] : List Value).toArray 32)).setRow W1.heap.size x.cells.toArray) := ((Ext.refl W1).alloc _).setRow (Nat.le_refl _) _
      obtain ⟨b5, hb5⟩ : ∃ b5, b5 = W1.heap.size := ⟨_, rfl⟩
      obtain ⟨W2, hW⟩ : ∃ W, W = (W1.alloc (.cells ([.int .i64 0, .int .i64 0, .int .i64 0, .int .i64 0, .int .i64 0, .int .i64 0, .int .i64 0, .int .i64 0, .int .i64 0, .int .i64 0, .int .i64 0, .int .i64 0, .int .i64 0, .int .i64 0, .int .i64 0, .int .i64 0, .int .i64 0] : List Value).toArray 32)).setRow W1.heap.size x.cells.toArray := ⟨_, rfl⟩
      have hW' : W2 = (W1.alloc (.cells #[.int .i64 0, .int .i64 0, .int .i64 0, .int .i64 0, .int .i64 0, .int .i64 0, .int .i64 0, .int .i64 0, .int .i64 0, .int .i64 0, .int .i64 0, .int .i64 0, .int .i64 0, .int .i64 0, .int .i64 0, .int .i64 0, .int .i64 0] 32)).setRow W1.heap.size x.cells.toArray := hW
      rw [← hW, ← hb5] at hB
      rw [← hW] at hx1
      rw [← hW', ← hb5]
      have HB5 := Lib.hid hB; have HO2 := Lib.hid (own_ext HO1.out hx1); have HX2 := Lib.hid (HX1.out.trans hx1); have HRG3 := Lib.hid (HRG2.out.ext hx1)
      clear hW hW' hb5 hB hx1 hen
      have hx6 : Ext W2 (W2.alloc (.cells x.cells.toArray 32)) := (Ext.refl _).alloc _
      have HSN := Lib.hid (show Sv (W2.alloc (.cells x.cells.toArray 32)) (W2.alloc (.cells x.cells.toArray 32)).heap.size 17 (some ⟨W2.heap.size, 0, none⟩) 1 (rowsE [x]) from
        ⟨by simp [rowsE], by decide, rowsE_rwk _, fun _ => ⟨W2.heap.size, 0, rfl, by simp, fun j u hu => by
          rw [Nat.zero_add, cell_of_row _ _ _ _ _ _ (heap_alloc_new W2 _)]
          simpa [rowsE] using hu⟩⟩)
      have HO3 := Lib.hid (own_ext HO2.out hx6)
      have HX3 := Lib.hid (HX2.out.trans hx6)
      have HRG4 := Lib.hid (HRG3.out.ext hx6)
      clear hx6
      go_wp2_with (first
        | (refine wpList_load_blk 32 (.tmp 5) rfl rfl HB5.out rfl _ Tryd.underlying32 rfl (by kernel_rfl) ?_)
        | (refine wpList_buildRow rfl 22 32 13 rfl 17 (by decide) (by decide) x.cells rfl rfl Tryd.underlying22 (by kernel_rfl) (by kernel_rfl) ?_)
        | (at_builtin; refine wpList_append_sv _ rfl (.tmp 12) (.tmp 14) 22 rfl w.heap.size 32 i0 (.agg #[.int .i64 0, .int .i64 0, .int .i64 0, .int .i64 0, .int .i64 0, .int .i64 0, .int .i64 0, .int .i64 0, .int .i64 0, .int .i64 0, .int .i64 0, .int .i64 0, .int .i64 0, .int .i64 0, .int .i64 0, .int .i64 0, .int .i64 0]) 17 136 Tryd.underlying22 HI.out HZ.out HZ1.out HZ2.out rfl (by decide) _ n _ rfl HO3.out _ _ 1 1 (rowsE [x]) rfl HSN.out rfl (by unfold maxLen; omega) (by omega) HX3.out.size ?_; intro v6 W6 g1 g2 _))
      have HO6 := Lib.hid (show W6.ownsRow w.heap.size 32 17 v6 (n + 1) (rowsE (o ++ [x])).flatten by rw [rowsE_append, List.flatten_append]; exact g1)
      have HX6 := Lib.hid (HX3.out.own HO3.out g2 (Nat.le_refl _))
      have HRG6 := Lib.hid (HRG4.out.kept g2 (fun e => map_ne_own HRG4.out.map HO3.out e) (fun e => rng_ne_own HRG4.out HO3.out e))
      obtain ⟨A6, c6, rfl, _⟩ := own_form HO6.out
      clear g1 g2
      go_roundw
      case rel => exact ⟨o ++ [x], n + 1, left.erase (nmE x), some (nmE x), by rw [List.length_append, HON.out]; rfl, hn1, HME2.out, HRG6.out, HO6.out, HX6.out⟩
      case measure => simp [lenV]; omega
theorem fin_set (l : List Ed) (hb : l.length ≤ 1034834473200) : ∀ o : List Ed, o.Nodup → (∀ x, x ∈ o → SetP l x) → o.length ≤ 1034834473200 := fun _o hn ho => Nat.le_trans (nodup_le hn fun x hx => (ho x hx).1) hb
set_option maxHeartbeats 1000000 in
theorem Set_any (A : Option Addr) (c : Nat) (l : List Ed) (w : World) (hs : Sv w w.heap.size 17 A c (rowsE l)) (hb : l.length ≤ 1034834473200) (hR : RowsIn w) :
    Calls Tryd.prog 16 #[.slice A l.length c] w fun e w' => ∃ m, IsSet l m ∧ RetE m w e w' := by
  have HB := Lib.hid (byName_any A c l w hs hb hR)
  clear hs hR
  go_enter Tryd.func16, Tryd.ntmps16
  go_upto_region 2 with (go_at_call 31; refine HB.out.mono ?_; rintro e W1 ⟨bm, F, f, A1, c1, rfl, hm1, hF, hf, hs1, hx1, hbm⟩)
  have HSO := Lib.hid (sorted_any bm (SetP l) F W1 (goodSet l) hm1 hF (fin_set l hb))
  have HX := Lib.hid hx1
  clear hm1 hF hf hs1 hx1 hbm
  go_wp2_with (go_at_call 38; refine HSO.out.mono ?_; rintro e W2 ⟨m, hm1, hm2, A2, c2, rfl, hs2, hx2⟩)
  go_ret
  exact ⟨m, ⟨hm1, hm2⟩, A2, c2, rfl, hs2, HX.out.trans hx2⟩
/-- It hands back a slice of names that can be read. -/
def RetN (l : List Nm) (w : World) (en : Ending) (w' : World) : Prop :=
  ∃ A c, en = .returned (.slice A l.length c) ∧ Sv w' w'.heap.size 2 A c (rowsN l) ∧ Ext w w'
set_option maxHeartbeats 1000000 in
theorem Forks_any (A : Option Addr) (c : Nat) (l : List Ed) (w : World) (hs : Sv w w.heap.size 17 A c (rowsE l)) (hb : l.length ≤ 1034834473200) (hR : RowsIn w) :
    Calls Tryd.prog 19 #[.slice A l.length c] w fun e w' => ∃ f, IsForks l f ∧ RetN f w e w' := by
  have HB := Lib.hid (byName_any A c l w hs hb hR)
  clear hs hR
  go_enter Tryd.func19, Tryd.ntmps19
  go_wp2_with (go_at_call 31; refine HB.out.mono ?_; rintro e W1 ⟨bm, F, f, A1, c1, rfl, hm1, hF, hf, hs1, hx1, hbm⟩)
  go_ret
  exact ⟨f, hf, A1, c1, rfl, hs1, hx1⟩
end Go.Proofs.YtcfebfblmmbeaaaDoor

/- history.undone. -/
namespace Go.Proofs.YtcfebfblmmbeaaaDoor
open Go Go.RowKit

/-- How many entries a range has yet to meet. -/
def leftN (w : World) (b r : Nat) : Nat :=
  match w.heap[b]?, w.heap[r]? with
  | some (.map es _), some (.mapIter _ _ seen _) => (es.toList.filter fun x => !seen.contains x.born).length
  | _, _ => 0
theorem RngF.count {K : Type} [DecidableEq K] {enc : K → Value} {w : World} {b r : Nat} {m : K → Option Value} {left : List K} {last : Option K} (h : RngF enc w b r m left last) : leftN w b r = left.length := by
  obtain ⟨es, clock, seen, ents, h1, h2, h3, h4, h5, h6, h7, h8, h9, _⟩ := h
  have hlen : es.toList.length = ents.length := by have := congrArg List.length h3; simpa using this
  unfold leftN
  rw [h1, h2]
  simp only
  have hz : (ents.zip es.toList).map Prod.snd = es.toList := List.map_snd_zip (by omega)
  have hf : (ents.zip es.toList).map Prod.fst = ents := List.map_fst_zip (by omega)
  rw [← hz, List.filter_map, List.length_map]
  have key : ∀ q, q ∈ ((ents.zip es.toList).filter ((fun x : MapEntry => !seen.contains x.born) ∘ Prod.snd)).map (fun p => p.1.1) ↔ q ∈ left := fun q => by
    rw [h9, List.mem_map]
    constructor
    · rintro ⟨⟨⟨k, v⟩, x⟩, hm, rfl⟩
      rw [List.mem_filter] at hm
      obtain ⟨i, hi⟩ := List.getElem?_of_mem hm.1
      rw [List.getElem?_zip_eq_some] at hi
      exact ⟨i, x, v, by simpa using hi.2, hi.1, by simpa using hm.2⟩
    · rintro ⟨i, x, v, k1, k2, k3⟩
      refine ⟨((q, v), x), ?_, rfl⟩
      rw [List.mem_filter]
      refine ⟨List.mem_of_getElem? (i := i) ?_, by show (!seen.contains x.born) = true; rw [k3]; rfl⟩
      rw [List.getElem?_zip_eq_some]
      exact ⟨k2, by simpa using k1⟩
  have hnd : (((ents.zip es.toList).filter ((fun x : MapEntry => !seen.contains x.born) ∘ Prod.snd)).map (fun p => p.1.1)).Nodup := by
    have : ((ents.zip es.toList).map (fun p => p.1.1)).Nodup := by
      rw [show (fun p : (K × Value) × MapEntry => p.1.1) = (fun e : K × Value => e.1) ∘ Prod.fst from rfl, ← List.map_map, hf]; exact h4
    exact this.sublist (List.filter_sublist.map _)
  have a1 := nodup_le hnd (fun x hx => (key x).1 hx)
  have a2 := nodup_le h8 (fun x hx => (key x).2 hx)
  rw [List.length_map] at a1 a2
  omega
theorem Met.skip {M : Ed → Prop} {left : List Nm} {o : List Ed} (h : Met M left o) (hl : left.Nodup) {q : Nm} (hq : ∀ x, M x → nmE x ≠ q) : Met M (left.erase q) o where
  nd := h.nd
  mem x := by
    rw [h.mem, hl.mem_erase_iff]
    constructor
    · rintro ⟨h1, h2⟩; exact ⟨h1, fun h3 => h2 h3.2⟩
    · rintro ⟨h1, h2⟩; exact ⟨h1, fun h3 => h2 ⟨hq x h1, h3⟩⟩
/-- The map's reading of a function of names to numbers. -/
def mapI (G : Nm → Option Int) (n : Nm) : Option Value := (G n).map fun v => .int .i64 v
theorem mapI_upd (G : Nm → Option Int) (v : Int) (n q : Nm) : (if q = n then some (.int .i64 v) else mapI G q) = mapI (updK G n v) q := by
  unfold mapI updK
  split <;> rfl
def UndoOf (M : Ed → Prop) (x : Ed) : Prop := M x ∧ x.kind = 6
theorem GoodM.undo {M : Ed → Prop} (g : GoodM M) : GoodM (UndoOf M) := ⟨fun hx hy h => g.name hx.1 hy.1 h, fun h => g.frm h.1⟩
theorem Ext.keepsFrom {w w' : World} (h : Ext w w') (B : Nat) : KeepsFrom B w w' := KeepsFrom.of_grownBy (h.by_ none) (by simp)
theorem Ext.kpB {w w' : World} (h : Ext w w') {n₀ Bs : Nat} (hn : n₀ ≤ w.heap.size) (hb : Bs < w.heap.size) : KpB n₀ Bs w w' := ⟨h.below.mono hn, h.below.block _ hb⟩
theorem wp_lookup_F {P : Program} {K : Type} [DecidableEq K] {t T e : TypeId} {enc : K → Value} {w : World} {o : Oper} {a : Act} {N : Act → World → Prop} {Q : Exit → Act → World → Prop} (mo x : Operand) (cm : Bool) (hop : o.op = .lookup T mo x cm)
    {b : Nat} {m : K → Option Value} (h : MapF enc w b m) (kt : KeyT P t enc) (ht : P.underlying T = some (.map t e)) {z : Value} (hz : (zeroValue e).run P w = .ok z w) (q : K) (u : Value) (hm : a.eval mo = .map (some b)) (hx : a.eval x = enc q)
    (hu : (if cm then .tuple #[(m q).getD z, .bool (m q).isSome] else (m q).getD z) = u)
    (hK : N (a.put o.dst u) w) : o.wp P a w N Q := by
  have hrun := h.look kt ht hz q cm
  rw [hu] at hrun
  unfold Oper.wp
  simp [execOp, hop, hm, hx, hrun, Result.andThen]
  exact hK
theorem wpList_lookup_W {P : Program} {K : Type} [DecidableEq K] {t T e : TypeId} {enc : K → Value} {w : World} {ops : Array Oper} {rest : List Oper} {o : Oper} {a : Act} {Q : Exit → Act → World → Prop} (mo x : Operand) (cm : Bool) (hop : o.op = .lookup T mo x cm) (hw : Region.wanted o (yielded ops a.tmps) = true)
    {b : Nat} {m : K → Option Value} (h : MapF enc w b m) (kt : KeyT P t enc) (ht : P.underlying T = some (.map t e)) {z : Value} (hz : (zeroValue e).run P w = .ok z w) (q : K) (u : Value) (hm : a.eval mo = .map (some b)) (hx : a.eval x = enc q)
    (hu : (if cm then .tuple #[(m q).getD z, .bool (m q).isSome] else (m q).getD z) = u)
    (hK : wpList P ops Q rest (a.put o.dst u) w) : wpList P ops Q (o :: rest) a w := by
  refine wpList_step fun K hK' => ?_
  rw [if_pos hw]
  exact wp_lookup_F mo x cm hop h kt ht hz q u hm hx hu (hK' _ _ hK)
theorem mapI_getD (G : Nm → Option Int) (q : Nm) : (mapI G q).getD (.int .i64 0) = .int .i64 ((G q).getD 0) := by
  unfold mapI
  cases G q <;> rfl
theorem KpB.grown {n₀ Bs b : Nat} {W Wx W' : World} (h : Ext W Wx) (hg : Wx.grownBy W' (some b)) (hn : n₀ ≤ W.heap.size) (hb : n₀ ≤ b) (hs : Bs < W.heap.size) (hne : Bs ≠ b) : KpB n₀ Bs W W' :=
  (h.kpB hn hs).trans ⟨(Below.refl n₀ Wx).grown hg (Nat.le_trans hn h.size) (fun k e => by injection e with e; omega), hg.block Bs (Nat.lt_of_lt_of_le hs h.size) (fun e => by injection e with e; exact hne e)⟩
theorem un_pre {p : Nm → Prop} {us : List {q : Nm // p q}} (hs : Srt befN (us.map (·.1))) {pre : List (Nat × {q : Nm // p q})} {j : Nat} {q : {q : Nm // p q}} (h : pre ++ [(j, q)] <+: bk us 0) :
    pre <+: bk us 0 ∧ (∀ z : Nm, (∃ x ∈ pre, x.2.1 = z) → befN q.1 z = true) ∧ (∀ z : Nm, z ∈ us.map (·.1) → befN q.1 z = true → ∃ x ∈ pre, x.2.1 = z) := by
  have h1 := bk_prefix h
  have h2 := h.length_le
  rw [bk_length, List.length_append] at h2
  rw [List.length_append] at h1
  simp only [List.length_cons, List.length_nil] at h1 h2
  obtain ⟨k, hk⟩ : ∃ k, us.length - (pre.length + (0 + 1)) = k := ⟨_, rfl⟩
  rw [hk] at h1
  obtain ⟨x, hx⟩ : ∃ x, us[k]? = some x := ⟨_, List.getElem?_eq_getElem (by omega)⟩
  rw [bk_down hx] at h1
  obtain ⟨h3, h4⟩ := List.append_inj' h1 rfl
  injection h4 with h4
  injection h4 with h4 h5
  subst h5
  have hq : (us.map (·.1))[k]? = some q.1 := by rw [List.getElem?_map, hx]; rfl
  refine ⟨(List.prefix_append _ _).trans h, fun z hz => ?_, fun z hz hb => ?_⟩
  · obtain ⟨⟨i, u⟩, hm, rfl⟩ := hz
    rw [h3, bk_mem] at hm
    exact hs.take_lt hq (by rw [List.getElem?_map, hm.2]; rfl) (by omega)
  · obtain ⟨u, hu, rfl⟩ := List.mem_map.1 hz
    obtain ⟨i, hi⟩ := List.getElem?_of_mem hu
    refine ⟨(i, u), ?_, rfl⟩
    rw [h3, bk_mem]
    refine ⟨?_, hi⟩
    have hi2 : (us.map (·.1))[i]? = some u.1 := by rw [List.getElem?_map, hi]; rfl
    rcases Nat.lt_trichotomy i k with h6 | h6 | h6
    · exact absurd (ordN.tr hb (hs.take_lt hi2 hq h6)) (by rw [ordN.irr]; simp)
    · subst h6
      rw [hi2] at hq
      injection hq with hq
      rw [hq, ordN.irr] at hb
      cases hb
    · omega
theorem UN.round {M : Ed → Prop} {F : Nm → Option Ed} (g : GoodM M) (hF : SaysM M F) {p : Nm → Prop} {us : List {q : Nm // p q}} (hs : Srt befN (us.map (·.1))) (hall : ∀ z, M z → z.kind = 6 → nmE z ∈ us.map (·.1)) {pre : List (Nat × {q : Nm // p q})} {j : Nat} {G : Nm → Option Int} {y : Ed} {hp : p (nmE y)} (hy : UndoOf M y)
    (hG : pre <+: bk us 0 → UN M (fun q => ∃ x ∈ pre, x.2.1 = q) G) (h : pre ++ [(j, ⟨nmE y, hp⟩)] <+: bk us 0) :
    ((G (nmE y)).getD 0 ≠ 0 ∨ ¬ y.size < y.st.seq ∨ (G ⟨y.st.site, y.size⟩).getD 0 ≠ 0 ∨ F ⟨y.st.site, y.size⟩ = none → UN M (fun q => ∃ x ∈ pre ++ [(j, (⟨nmE y, hp⟩ : {q : Nm // p q}))], x.2.1 = q) G) ∧
    ((G (nmE y)).getD 0 = 0 → y.size < y.st.seq → (G ⟨y.st.site, y.size⟩).getD 0 = 0 → F ⟨y.st.site, y.size⟩ ≠ none → UN M (fun q => ∃ x ∈ pre ++ [(j, (⟨nmE y, hp⟩ : {q : Nm // p q}))], x.2.1 = q) (updK G ⟨y.st.site, y.size⟩ y.st.seq)) := by
  obtain ⟨h1, h2, h3⟩ := un_pre hs h
  have hU := hG h1
  have hD : (fun q => ∃ x ∈ pre ++ [(j, (⟨nmE y, hp⟩ : {q : Nm // p q}))], x.2.1 = q) = fun n => n = nmE y ∨ ∃ x ∈ pre, x.2.1 = n := by
    funext n
    simp only [List.mem_append, List.mem_singleton, eq_iff_iff]
    constructor
    · rintro ⟨x, hx | rfl, rfl⟩
      · exact .inr ⟨x, hx, rfl⟩
      · exact .inl rfl
    · rintro (rfl | ⟨x, hx, rfl⟩)
      · exact ⟨_, .inr rfl, rfl⟩
      · exact ⟨x, .inl hx, rfl⟩
  rw [hD]
  have heff := hU.eff hy.1 (fun z hz hk hb => h3 _ (hall z hz hk) hb) g
  have h0 : ∀ t, (G t).getD 0 = 0 → G t = none := fun t ht => by
    cases hg : G t with
    | none => rfl
    | some v =>
      rw [hg] at ht
      have := hU.pos g hg
      simp at ht
      omega
  constructor
  · intro hno
    refine hU.miss g hy.1 (fun z _ hd => h2 _ hd) ?_
    rcases hno with a | a | a | a
    · refine .inl ?_
      refine Classical.byContradiction fun hc => a ?_
      rw [heff.2 hc]; rfl
    · exact .inr (.inl a)
    · exact .inr (.inr (.inl fun e => a (by rw [e]; rfl)))
    · refine .inr (.inr (.inr fun x hx e => ?_))
      have := (hF _ _).2 ⟨hx, e⟩
      rw [a] at this
      cases this
  · intro a b c d
    obtain ⟨x, hx⟩ := Option.ne_none_iff_exists'.1 d
    obtain ⟨hx1, hx2⟩ := (hF _ _).1 hx
    rw [← hx2] at c ⊢
    exact hU.hit g hy.1 hy.2 (heff.1 (h0 _ a)) hx1 hx2 b (h0 _ c)
/-- What the drawn region of a round yields. -/
def undV (Bx bm : Nat) (y : Ed) (i : Nat) : Value := match i with
  | 0 => .pointer (some ⟨Bx, 0, none⟩)
  | 1 => .int .i64 y.st.site
  | 2 => .map (some bm)
  | 3 => nmV (nmE y)
  | 4 => .agg y.cells.toArray
  | 5 => .int .i64 y.size
  | 6 => .agg #[.int .i64 y.st.site, .int .i64 y.size]
  | _ => undef
/-- The loop's state: what is undone so far, in the map bm2, which the block behind it holds. -/
structure UnI {p : Nm → Prop} (M : Ed → Prop) (bm2 : Nat) (us : List {q : Nm // p q}) (W2 : World) (pre : List (Nat × {q : Nm // p q})) (W' : World) : Prop where
  map : ∃ G, MapF nmV W' bm2 (mapI G) ∧ (pre <+: bk us 0 → UN M (fun q => ∃ x ∈ pre, x.2.1 = q) G)
  bs : bm2 + 3 ≤ W'.heap.size
  out : Arr W' (bm2 + 1) 55 [.map (some bm2)]
  ext : Ext W2 W'
theorem UnI.kept {p : Nm → Prop} {M : Ed → Prop} {us : List {q : Nm // p q}} {W2 W' W'' : World} {bm2 : Nat} {pre : List (Nat × {q : Nm // p q})} {row : Option Nat} (h : UnI M bm2 us W2 pre W') (hb : W2.heap.size ≤ bm2) (hg : W'.grownBy W'' row) (hr : ∀ r, row = some r → bm2 + 2 ≤ r) : UnI M bm2 us W2 pre W'' := by
  obtain ⟨⟨G, h1, h2⟩, h0, h3, h4⟩ := h
  exact ⟨⟨G, h1.kept hg (fun e => by have := hr _ e; omega), h2⟩, Nat.le_trans h0 hg.size, h3.kept hg (fun e => by have := hr _ e; omega), h4.grown hg (fun k e => by have := hr k e; omega)⟩
theorem UnI.more {p : Nm → Prop} {M : Ed → Prop} {us : List {q : Nm // p q}} {W2 W' W'' : World} {bm2 : Nat} {pre : List (Nat × {q : Nm // p q})} (h : UnI M bm2 us W2 pre W') (hb : W2.heap.size ≤ bm2) (hx : Ext W' W'') : UnI M bm2 us W2 pre W'' := h.kept hb (hx.by_ none) (by simp)
def RetUn (M : Ed → Prop) (w : World) (en : Ending) (w' : World) : Prop :=
  ∃ b G done, en = .returned (.map (some b)) ∧ MapF nmV w' b (mapI G) ∧ UN M done G ∧ (∀ x, M x → x.kind = 6 → done (nmE x)) ∧ Ext w w' ∧ w.heap.size ≤ b
set_option maxRecDepth 100000 in
set_option maxHeartbeats 4000000 in
theorem undone_any (bm : Nat) (M : Ed → Prop) (F : Nm → Option Ed) (w : World) (g : GoodM M) (hm : MapF nmV w bm (mapE F)) (hF : SaysM M F) (hfin : ∀ o : List Ed, o.Nodup → (∀ x, x ∈ o → M x) → o.length ≤ 1034834473200) :
    Calls Tryd.prog 32 #[.map (some bm)] w (RetUn M w) := by
  obtain ⟨i0, hi, hz0, hz1, hz2⟩ := info_parts infoNm
  have HI := Lib.hid hi; have HZ := Lib.hid hz0; have HZ1 := Lib.hid hz1; have HZ2 := Lib.hid hz2; clear hi hz0 hz1 hz2
  have HMB := Lib.hid hm
  have HM := Lib.hid (hm.alloc (.cells #[.map (some bm)] 51))
  have HX := Lib.hid (show Ext w (w.alloc (.cells #[.map (some bm)] 51)) from (Ext.refl w).alloc _)
  have HA := Lib.hid (Arr.new w 51 [.map (some bm)])
  clear hm
  refine (callsIn_wide (n := 5)).1 (callsIn_of_wp_marks Tryd.func32 rfl trivial (wpIn_wide.2 ?_) rfl)
  simp only [Tryd.ntmps32, List.size_toArray, List.length_cons, List.length_nil, Nat.reduceAdd, Nat.reduceSub, Array.replicate_succ, Array.replicate_zero, List.push_toArray, List.append_toArray, List.nil_append, List.cons_append]
  go_upto_region 2 with fail
  obtain ⟨W0, hW⟩ : ∃ W, W = w.alloc (.cells #[.map (some bm)] 51) := ⟨_, rfl⟩
  rw [← hW] at HM HX HA
  rw [← hW]
  clear hW
  have HX0 := HX
  have hcb := HA.out.cell 0
  rw [List.getElem?_cons_zero] at hcb
  go_wp2_with (at_range; refine wpList_range_F rfl (.tmp 12) rfl HM.out Tryd.underlying51 rfl ?_; intro left0 W1 hl0 hr0 hx0)
  obtain ⟨r, hr⟩ : ∃ r, r = W0.heap.size := ⟨_, rfl⟩
  rw [← hr] at hr0
  (try rw [← hr])
  have HRB := Lib.hid (show W0.heap.size ≤ r by omega)
  clear hr
  go_frame
  go_loopw [3] (fun ov wr => ∃ (o : List Ed) (n : Nat) (left : List Nm) (last : Option Nm), o.length = n ∧ n ≤ 1034834473200 ∧ Met (UndoOf M) left o ∧ RngF nmV wr bm r (mapE F) left last ∧ wr.ownsRow W0.heap.size 24 2 ov n (rowsN (o.map nmE)).flatten ∧ Ext W0 wr) (fun _ wr => leftN wr bm r)
  case atStart => exact ⟨[], 0, left0, none, rfl, by omega, ⟨List.nodup_nil, fun x => ⟨fun h => (by cases h), fun ⟨h1, h2⟩ => absurd ((hl0 _).2 (by have := (hF (nmE x) x).2 ⟨h1.1, rfl⟩; unfold mapE; rw [this]; rfl)) h2⟩⟩, hr0, World.ownsRow_nil _ _ _ _, hx0⟩
  case round =>
    obtain ⟨o, n, left, last, hon, hn, hmet, hrg, ho, hx⟩ := hrel
    have HO := Lib.hid ho; have HX := Lib.hid hx; have HME := Lib.hid hmet; have HON := Lib.hid hon; have HRG := Lib.hid hrg
    obtain ⟨A1, c1, rfl, _⟩ := own_form ho
    clear ho hx hmet hon hrg
    go_wp2_with (at_next; refine wpList_next_F rfl (.tmp 13) rfl HRG.out rfl ?_ ?_)
    · intro hl0
      have HMM := Lib.hid (show ∀ x, x ∈ o ↔ UndoOf M x from fun x => by rw [HME.out.mem, hl0]; simp)
      have hln : (o.map nmE).length = n := by rw [List.length_map]; exact HON.out
      have HSO := Lib.hid (SortNm_any (o.map nmE) (.slice A1 n c1) W0.heap.size wr (by rw [hln]; exact HO.out) (by omega))
      have hmm := @run_makeMap Tryd.prog
      have HFR := Lib.hid (show wr.frozen? ⟨0, 0, none⟩ = wr.frozen? ⟨0, 0, none⟩ from rfl)
      clear hl0
      go_upto_region 8 with (go_at_call 44; refine HSO.out.mono ?_; rintro e W2 ⟨rfl, ho2, hg2⟩)
      rw [hln] at ho2
      have hmd := MapF.made (enc := nmV) W2
      have hB6 := (Arr.new (W2.alloc (.map #[] 0)) 55 [.map none]).set 0 (.map (some W2.heap.size))
      go_upto_region 9 with fail
      go_upto_region 10 with (go_at_call 47; refine (Backward_any _ _ _ _).mono ?_; rintro e W3 ⟨rfl, hW3⟩)
      clear hW3
      have hus : ∀ q, q ∈ srtR befN (o.map nmE) → ∃ y, UndoOf M y ∧ nmE y = q := fun q hq => by
        rw [srtR_mem, List.mem_map] at hq
        obtain ⟨y, hy, rfl⟩ := hq
        exact ⟨y, (HMM.out y).1 hy, rfl⟩
      obtain ⟨us, hus2⟩ : ∃ us : List {q : Nm // ∃ y, UndoOf M y ∧ nmE y = q}, us.map (·.1) = srtR befN (o.map nmE) := ⟨(srtR befN (o.map nmE)).pmap Subtype.mk hus, by simp [List.map_pmap]⟩
      have husl : us.length = n := by
        have := congrArg List.length hus2
        rw [List.length_map, srtR_length, hln] at this
        exact this
      have HUS := Lib.hid hus2
      have HSRT := Lib.hid (show Srt befN (us.map (·.1)) by
        rw [hus2]
        have hnd : (srtR befN (o.map nmE)).Nodup := (srtR_perm (o.map nmE)).nodup_iff.2 (List.pairwise_map.2 (HME.out.nd.imp_of_mem fun ha hb hne e => hne (g.name ((HMM.out _).1 ha).1 ((HMM.out _).1 hb).1 e)))
        exact (List.pairwise_and_iff.2 ⟨srtR_le ordN (o.map nmE), hnd⟩).imp fun ⟨h1, h2⟩ => ordN.lt h1 (fun e => h2 e.symm))
      have HALL := Lib.hid (show ∀ z, M z → z.kind = 6 → nmE z ∈ us.map (·.1) from fun z h1 h2 => by
        rw [hus2, srtR_mem]
        exact List.mem_map.2 ⟨z, (HMM.out z).2 ⟨h1, h2⟩, rfl⟩)
      have HSV := Lib.hid (Sv.of_own ho2 (rowsN_rwk _) (by rw [rowsN_length, srtR_length, hln]))
      have hX2 : Ext W0 W2 := HX.out.grown hg2 (own_low HO.out)
      have HX2 := Lib.hid hX2
      have hx3 : Ext W2 (((W2.alloc (.map #[] 0)).alloc (.cells #[.map (some W2.heap.size)] 55)).alloc (.cells #[.slice A1 n c1] 41)) := (((Ext.refl W2).alloc _).alloc _).alloc _
      have hbs := Arr.new ((W2.alloc (.map #[] 0)).alloc (.cells #[.map (some W2.heap.size)] 55)) 41 [.slice A1 n c1]
      have hbo := Arr.new1 W2 (.map #[] 0) 55 [.map (some W2.heap.size)]
      have hbo := hbo.alloc (.cells #[.slice A1 n c1] 41)
      have hmd := (hmd.alloc (.cells #[.map (some W2.heap.size)] 55)).alloc (.cells #[.slice A1 n c1] 41)
      rw [World.size_alloc_, World.size_alloc_] at hbs
      have hsz : (((W2.alloc (.map #[] 0)).alloc (.cells #[.map (some W2.heap.size)] 55)).alloc (.cells #[.slice A1 n c1] 41)).heap.size = W2.heap.size + 3 := by simp
      obtain ⟨W4, hW4⟩ : ∃ W, W = ((W2.alloc (.map #[] 0)).alloc (.cells #[.map (some W2.heap.size)] 55)).alloc (.cells #[.slice A1 n c1] 41) := ⟨_, rfl⟩
      have hW4' : W4 = ((W2.alloc (.map #[] 0)).alloc (.cells ([.map (some W2.heap.size)] : List Value).toArray 55)).alloc (.cells ([.slice A1 n c1] : List Value).toArray 41) := hW4
      rw [← hW4] at hx3 hsz hmd
      rw [← hW4'] at hbs hbo
      rw [← hW4]
      have hbc := hbs.cell 0
      rw [List.getElem?_cons_zero, ← husl] at hbc
      have hstops := backNm_stops (fun q => ∃ y, UndoOf M y ∧ nmE y = q) (W2.heap.size + 2) W2.heap.size c1 A1 us (by omega) W4 (by omega) (by omega) hbc (by
        rw [HUS.out]
        exact HSV.out.keep fun q hq => hx3.below.cell hq)
      have hI0 : UnI M W2.heap.size us W2 [] W4 := ⟨⟨fun _ => none, hmd, fun _ => by
        have h0 := UN.start M
        rw [show (fun _ : Nm => False) = (fun q : Nm => ∃ x ∈ ([] : List (Nat × {q : Nm // ∃ y, UndoOf M y ∧ nmE y = q})), x.2.1 = q) by funext q; simp] at h0
        exact h0⟩, Nat.le_of_eq hsz.symm, hbo, hx3⟩
      clear hmd hbo hbs hB6 hW4 hW4' HO ho2 hg2 HSO hmm HI HZ HZ1 HZ2
      refine (wpIn_wide (n := 5)).1 (wpIn_rangeFunc_ownH (F := Fence.wide) (n := 5) rfl (by decide) (gf := 59) (lb := #[.pointer (some ⟨W2.heap.size + 1 + 1, 0, none⟩)]) rfl trivial (enters_of Tryd.func59 (by kernel_rfl) rfl)
        hstops KpB.trans (KpB.put (by omega) (by omega)) (Below.refl _ _) (fun _ => rfl)
        (fun pre W => UnI M W2.heap.size us W2 pre W) (fun _ _ _ => False) (fun s X Y row hs hg hr => hs.kept (Nat.le_refl _) hg (fun q e => by have := (hr q e).1; omega)) (fun _ _ _ _ _ hs _ _ => hs) hI0
        (fun x a' W => ∃ Bx, W2.heap.size + 3 ≤ Bx ∧ Arr W Bx 24 x.2.1.cells ∧ a' = { tmps := #[.map (some bm), .pointer (some ⟨w.heap.size, 0, none⟩), .map none, .slice A1 n c1, u4, u5, .pointer (some ⟨W2.heap.size + 1, 0, none⟩), undef, .pointer (some ⟨Bx, 0, none⟩), undef, undef, undef, .map (some bm), .pointer (some ⟨r, 0, none⟩), .tuple #[.bool false], .bool false, u16, u17, u18, u19, u20, u21, u22, u23, u24, u25, .slice A1 n c1, .tuple #[], .map (some W2.heap.size), .slice A1 n c1, .func (.func 59) #[] #[.pointer (some ⟨W2.heap.size + 1 + 1, 0, none⟩)], .int .i64 (x.1 : Int), .agg x.2.1.cells.toArray, undef, undef, undef, undef, undef, undef, undef, undef, undef, undef, undef, undef, undef, undef, undef, undef, undef, undef, undef, undef, undef, undef, undef, undef, undef, undef, undef, undef, undef, undef, undef, undef, undef, undef, undef, undef], defers := [] })
        (fun x a' _ X Y row hs hg hr => by
          obtain ⟨Bx, h1, h2, h3⟩ := hs
          exact ⟨Bx, h1, h2.kept hg (fun e => by obtain ⟨_, oo, ho, hc⟩ := hr _ e; unfold Arr at h2; rw [ho] at h2; injection h2 with h2; subst h2; cases hc), h3⟩) ?assign ?body ?done ?stop)
      case assign =>
        rintro l pre x W K hi hK
        have hK2 := hK _ _ (((((Ext.refl W).alloc (.cells ([.int .i64 0, .int .i64 0] : List Value).toArray 24)).setRow (g := W.heap.size) (Nat.le_refl _) x.2.1.cells.toArray).keepsFrom _)) (((Ext.refl W).alloc (.cells ([.int .i64 0, .int .i64 0] : List Value).toArray 24)).setRow (g := W.heap.size) (Nat.le_refl _) x.2.1.cells.toArray |>.kpB (by have := hi.ext.size; omega) (by have := hi.out.lt; have := hi.bs; omega)) (hi.more (Nat.le_refl _) (((Ext.refl W).alloc _).setRow (Nat.le_refl _) _)) ⟨W.heap.size, hi.bs, (Arr.new W 24 [.int .i64 0, .int .i64 0]).setRow x.2.1.cells, rfl⟩
        clear hK
        refine regionIn (by rfl) (by rintro ⟨_, _, h⟩; exact h) ?_
        go_wp2_with (refine wpList_store_blk 24 (.tmp 8) (.tmp 32) rfl rfl (Arr.new W 24 [.int .i64 0, .int .i64 0]) x.2.1.cells rfl rfl (by kernel_rfl) rfl rfl ?_)
        exact hK2
      case body =>
        rintro l pre x a' Wb hl ⟨rr, hrr⟩ hi ⟨Bx, hBx, hAX, rfl⟩ hlt
        obtain ⟨j, q, y, hy, rfl⟩ := x
        dsimp only at hAX
        have HI := Lib.hid hi
        have hxb : Ext W0 Wb := HX2.out.trans hi.ext
        have HMF := Lib.hid (HM.out.ext hxb)
        have HAB := Lib.hid (HA.out.ext hxb)
        have hFy : mapE F (nmE y) = some (.agg y.cells.toArray) := by unfold mapE; rw [(hF (nmE y) y).2 ⟨hy.1, rfl⟩]; rfl
        have HAX := Lib.hid hAX
        obtain ⟨zi, hzi, hzz, hzs, hzb⟩ := info_parts infoNm
        clear hrr hi hxb hAX
        dsimp only
        refine wpIn_block (wpIn_seq ?_)
        refine wpIn_region_box_ (undV Bx bm y) 7 24 9 39 6 [.int .i64 0, .int .i64 0] [.int .i64 y.st.site, .int .i64 y.size] (by rfl) (by rintro ⟨_, _, h⟩; exact h) mixed (by kernel_rfl) (by kernel_rfl) (noGuard_ (by kernel_rfl)) rfl ⟨_, rfl, rfl, rfl⟩
          ⟨_, rfl, rfl, rfl, ⟨⟨7, .data⟩, by simp, rfl, rfl⟩, ⟨⟨6, .data⟩, by simp, rfl, rfl⟩⟩ (by omega) rfl (by simp) (by simp) rfl ⟨zi, _, hzi, hzz, rfl⟩ (by kernel_rfl) rfl rfl ?_ ?_
        · intro listed w1 i o ho hin hdep hx1 b' K E0 E1 hK
          have hun : True := trivial
          have hX := HAX.out.ext hx1
          match i, ho with
          | 0, ho =>
            injection ho with ho
            subst ho
            have e4 := E0 8 (by kernel_rfl)
            simp only [List.getElem?_toArray, List.getElem?_cons_zero, List.getElem?_cons_succ] at e4
            have hK2 := hK w1 (Ext.refl _)
            clear hdep E0 E1 hun
            unfold Oper.wp
            simp [execOp, e4, go_sem]
            exact hK2
          | 1, ho =>
            injection ho with ho
            subst ho
            have d0 := hdep ⟨0, .data⟩ (by simp) rfl
            have e4 := E1 0 33 (by decide) (getD_up d0) rfl (by simp)
            simp only [undV] at e4
            have hc := hX.cell 0
            rw [show (nmE y).cells[0]? = some (.int .i64 y.st.site) from rfl] at hc
            have hK2 := hK w1 (Ext.refl _)
            clear hdep E0 E1 hun
            unfold Oper.wp
            simp [execOp, e4, hc, go_sem]
            exact hK2
          | 2, ho =>
            injection ho with ho
            subst ho
            have e4 := E0 1 (by kernel_rfl)
            simp only [List.getElem?_toArray, List.getElem?_cons_zero, List.getElem?_cons_succ] at e4
            have hc := (HAB.out.ext hx1).cell 0
            rw [List.getElem?_cons_zero] at hc
            have hK2 := hK w1 (Ext.refl _)
            clear hdep E0 E1 hun
            unfold Oper.wp
            simp [execOp, e4, hc, go_sem]
            exact hK2
          | 3, ho =>
            injection ho with ho
            subst ho
            have e4 := E0 8 (by kernel_rfl)
            simp only [List.getElem?_toArray, List.getElem?_cons_zero, List.getElem?_cons_succ] at e4
            exact wp_load_row 24 (.tmp 8) rfl _ (by simp [Act.eval, Array.getD_eq_getD_getElem?, e4]) 24 _ (0, 0) _ hX Tryd.underlying24 rfl (by kernel_rfl) (hK w1 (Ext.refl _))
          | 4, ho =>
            injection ho with ho
            subst ho
            have d2 := hdep ⟨2, .data⟩ (by simp) rfl
            have d3 := hdep ⟨3, .data⟩ (by simp) rfl
            have e4 := E1 2 35 (by decide) (getD_up d2) rfl (by simp)
            have e5 := E1 3 36 (by decide) (getD_up d3) rfl (by simp)
            simp only [undV] at e4 e5
            exact wp_lookup_F (.tmp 35) (.tmp 36) false rfl (HMF.out.ext hx1) ktNm Tryd.underlying51 (zeroEdV _) (nmE y) (.agg y.cells.toArray) (by simp [Act.eval, Array.getD_eq_getD_getElem?, e4]) (by simp [Act.eval, Array.getD_eq_getD_getElem?, e5]) (by rw [hFy]; rfl) (hK w1 (Ext.refl _))
          | 5, ho =>
            injection ho with ho
            subst ho
            have d0 := hdep ⟨4, .data⟩ (by simp) rfl
            have e4 := E1 4 37 (by decide) (getD_up d0) rfl (by simp)
            simp only [undV, Ed.cells] at e4
            have hK2 := hK w1 (Ext.refl _)
            clear hdep E0 E1 hun
            unfold Oper.wp
            simp [execOp, e4, go_sem]
            exact hK2
          | 6, ho =>
            injection ho with ho
            subst ho
            have d1 := hdep ⟨1, .data⟩ (by simp) rfl
            have d5 := hdep ⟨5, .data⟩ (by simp) rfl
            have e4 := E1 1 34 (by decide) (getD_up d1) rfl (by simp)
            have e5 := E1 5 38 (by decide) (getD_up d5) rfl (by simp)
            simp only [undV] at e4 e5
            have hK2 := hK w1 (Ext.refl _)
            clear hdep E0 E1 hun
            unfold Oper.wp
            simp [execOp, e4, e5, go_sem]
            exact hK2
          | n + 7, ho => omega
        · intro g9 w1 hx1 hg9 hA
          simp only [List.length_cons, List.length_nil, fillAllN, dstOf, boxV, undV, Act.put, List.getElem?_toArray, List.getElem?_cons_zero, List.getElem?_cons_succ, Option.bind_some]
          have HA9 := Lib.hid hA
          have HX1 := Lib.hid hx1
          clear hA hx1
          simp
          obtain ⟨⟨G, hG1, hG2⟩, hs3, hout, hext⟩ := HI.out
          have HUN := Lib.hid (fun h => UN.round g hF HSRT.out HALL.out (j := j) (hp := ⟨y, hy, rfl⟩) hy hG2 h)
          have HG0 := Lib.hid hG1; have HOUT := Lib.hid hout; have HEXT := Lib.hid hext
          have hG1 := hG1.ext HX1.out
          have hco := (hout.ext HX1.out).cell 0
          rw [List.getElem?_cons_zero] at hco
          have hca := (HAB.out.ext HX1.out).cell 0
          rw [List.getElem?_cons_zero] at hca
          have HBX := Lib.hid (HAX.out.ext HX1.out)
          have hb1 := HBX.out.cell 1
          rw [show (nmE y).cells[1]? = some (.int .i64 y.st.seq) from rfl] at hb1
          have h91 := HA9.out.cell 1
          rw [List.getElem?_cons_succ, List.getElem?_cons_zero] at h91
          have HG1 := Lib.hid hG1; have HMF1 := Lib.hid (HMF.out.ext HX1.out)
          have HW0 := Lib.hid (show ∀ B Wx, Ext Wb Wx → KeepsFrom B Wb Wx ∧ KpB W2.heap.size (W2.heap.size + 2) Wb Wx from fun B Wx hx => ⟨hx.keepsFrom _, hx.kpB (by omega) (by omega)⟩)
          have HST := Lib.hid (show ∀ Wx, Ext Wb Wx → ((G (nmE y)).getD 0 ≠ 0 ∨ ¬ y.size < y.st.seq ∨ (G ⟨y.st.site, y.size⟩).getD 0 ≠ 0 ∨ F ⟨y.st.site, y.size⟩ = none) → UnI M W2.heap.size us W2 (pre ++ [(j, ⟨nmE y, ⟨y, hy, rfl⟩⟩)]) Wx from fun Wx hx hno =>
            ⟨⟨G, HG0.out.ext hx, fun h => (HUN.out h).1 hno⟩, Nat.le_trans hs3 hx.size, HOUT.out.ext hx, HEXT.out.trans hx⟩)
          have hg9s : Wb.heap.size ≤ g9 := hg9
          clear hG1 hG2 hout hext
          change Code.wpIn (Fence.wide.inRound l) 3 _ (Code.seq _ _) _ _ _
          refine wpIn_seq (regionIn (by rfl) (by rintro ⟨_, _, h⟩; exact h) ?_)
          have mv := mapI_getD G
          obtain ⟨v1, hv1⟩ : ∃ v1, (G (nmE y)).getD 0 = v1 := ⟨_, rfl⟩
          obtain ⟨v3, hv3⟩ : ∃ v3, (G ⟨y.st.site, y.size⟩).getD 0 = v3 := ⟨_, rfl⟩
          have hm1 : (mapI G (nmE y)).getD (.int .i64 0) = .int .i64 v1 := by rw [mapI_getD, hv1]
          have hm3 : (mapI G ⟨y.st.site, y.size⟩).getD (.int .i64 0) = .int .i64 v3 := by rw [mapI_getD, hv3]
          have HM1 := Lib.hid hm1; have HM3 := Lib.hid hm3; have HV1 := Lib.hid hv1; have HV3 := Lib.hid hv3
          clear hm1 hm3 hv1 hv3 mv
          by_cases c1 : v1 = 0
          · subst c1
            by_cases c2 : y.size < y.st.seq
            · by_cases c3 : v3 = 0
              · subst c3
                go_wp2_with (first
                  | (refine wpList_load_blk 24 (.tmp 8) rfl rfl HBX.out rfl _ Tryd.underlying24 rfl (by kernel_rfl) ?_)
                  | (refine wpList_load_blk 24 (.tmp 9) rfl rfl HA9.out rfl _ Tryd.underlying24 rfl (by kernel_rfl) ?_)
                  | (refine wpList_lookup_W (.tmp 40) (.tmp 41) false rfl rfl HG1.out ktNm Tryd.underlying55 (by kernel_rfl) (nmE y) _ rfl rfl HM1.out ?_)
                  | (refine wpList_lookup_W (.tmp 52) (.tmp 53) false rfl rfl HG1.out ktNm Tryd.underlying55 (by kernel_rfl) ⟨y.st.site, y.size⟩ _ rfl rfl HM3.out ?_))
                refine wpIn_cond_true rfl ?_
                cases hft : F ⟨y.st.site, y.size⟩ with
                | none =>
                  have HFT := Lib.hid (show (if true = true then Value.tuple #[(mapE F ⟨y.st.site, y.size⟩).getD (.agg #[.int .i64 0, .int .i64 0, .int .i64 0, .int .i64 0, .int .i64 0, .int .i64 0, .int .i64 0, .int .i64 0, .int .i64 0, .int .i64 0, .int .i64 0, .int .i64 0, .int .i64 0, .int .i64 0, .int .i64 0, .int .i64 0, .int .i64 0]), .bool (mapE F ⟨y.st.site, y.size⟩).isSome] else (mapE F ⟨y.st.site, y.size⟩).getD (.agg #[.int .i64 0, .int .i64 0, .int .i64 0, .int .i64 0, .int .i64 0, .int .i64 0, .int .i64 0, .int .i64 0, .int .i64 0, .int .i64 0, .int .i64 0, .int .i64 0, .int .i64 0, .int .i64 0, .int .i64 0, .int .i64 0, .int .i64 0])) = .tuple #[.agg #[.int .i64 0, .int .i64 0, .int .i64 0, .int .i64 0, .int .i64 0, .int .i64 0, .int .i64 0, .int .i64 0, .int .i64 0, .int .i64 0, .int .i64 0, .int .i64 0, .int .i64 0, .int .i64 0, .int .i64 0, .int .i64 0, .int .i64 0], .bool false] by unfold mapE; rw [hft]; rfl)
                  have HXF := Lib.hid (HX1.out.trans (((Ext.refl w1).alloc (.cells ([.int .i64 0, .int .i64 0, .int .i64 0, .int .i64 0, .int .i64 0, .int .i64 0, .int .i64 0, .int .i64 0, .int .i64 0, .int .i64 0, .int .i64 0, .int .i64 0, .int .i64 0, .int .i64 0, .int .i64 0, .int .i64 0, .int .i64 0] : List Value).toArray 32)).setRow (g := w1.heap.size) (Nat.le_refl _) ([.int .i64 0, .int .i64 0, .int .i64 0, .int .i64 0, .int .i64 0, .int .i64 0, .int .i64 0, .int .i64 0, .int .i64 0, .int .i64 0, .int .i64 0, .int .i64 0, .int .i64 0, .int .i64 0, .int .i64 0, .int .i64 0, .int .i64 0] : List Value).toArray))
                  have HFN := Lib.hid hft
                  clear hft
                  refine wpIn_seq (regionIn (by rfl) (by rintro ⟨_, _, h⟩; exact h) ?_)
                  go_wp2_with (first
                    | (refine wpList_load_blk 24 (.tmp 9) rfl rfl HA9.out rfl _ Tryd.underlying24 rfl (by kernel_rfl) ?_)
                    | (refine wpList_lookup_W (.tmp 58) (.tmp 59) true rfl rfl HMF1.out ktNm Tryd.underlying51 (zeroEdV _) ⟨y.st.site, y.size⟩ _ rfl rfl HFT.out ?_)
                    | (refine wpList_store_blk 32 (.tmp 10) (.tmp 61) rfl rfl (Arr.new w1 32 [.int .i64 0, .int .i64 0, .int .i64 0, .int .i64 0, .int .i64 0, .int .i64 0, .int .i64 0, .int .i64 0, .int .i64 0, .int .i64 0, .int .i64 0, .int .i64 0, .int .i64 0, .int .i64 0, .int .i64 0, .int .i64 0, .int .i64 0]) [.int .i64 0, .int .i64 0, .int .i64 0, .int .i64 0, .int .i64 0, .int .i64 0, .int .i64 0, .int .i64 0, .int .i64 0, .int .i64 0, .int .i64 0, .int .i64 0, .int .i64 0, .int .i64 0, .int .i64 0, .int .i64 0, .int .i64 0] rfl rfl (by kernel_rfl) rfl rfl ?_))
                  refine wpIn_seq (regionIn (by rfl) (by rintro ⟨_, _, h⟩; exact h) ?_)
                  go_wp2_with fail
                  refine wpIn_cond_false rfl (wpIn_skip ?_)
                  exact ⟨(HW0.out _ _ HXF.out).1, (HW0.out 0 _ HXF.out).2, HST.out _ HXF.out (.inr (.inr (.inr HFN.out)))⟩
                | some z =>
                  have HFT := Lib.hid (show (if true = true then Value.tuple #[(mapE F ⟨y.st.site, y.size⟩).getD (.agg #[.int .i64 0, .int .i64 0, .int .i64 0, .int .i64 0, .int .i64 0, .int .i64 0, .int .i64 0, .int .i64 0, .int .i64 0, .int .i64 0, .int .i64 0, .int .i64 0, .int .i64 0, .int .i64 0, .int .i64 0, .int .i64 0, .int .i64 0]), .bool (mapE F ⟨y.st.site, y.size⟩).isSome] else (mapE F ⟨y.st.site, y.size⟩).getD (.agg #[.int .i64 0, .int .i64 0, .int .i64 0, .int .i64 0, .int .i64 0, .int .i64 0, .int .i64 0, .int .i64 0, .int .i64 0, .int .i64 0, .int .i64 0, .int .i64 0, .int .i64 0, .int .i64 0, .int .i64 0, .int .i64 0, .int .i64 0])) = .tuple #[.agg z.cells.toArray, .bool true] by unfold mapE; rw [hft]; rfl)
                  have HXF := Lib.hid (HX1.out.trans (((Ext.refl w1).alloc (.cells ([.int .i64 0, .int .i64 0, .int .i64 0, .int .i64 0, .int .i64 0, .int .i64 0, .int .i64 0, .int .i64 0, .int .i64 0, .int .i64 0, .int .i64 0, .int .i64 0, .int .i64 0, .int .i64 0, .int .i64 0, .int .i64 0, .int .i64 0] : List Value).toArray 32)).setRow (g := w1.heap.size) (Nat.le_refl _) z.cells.toArray))
                  have HFN := Lib.hid (show F ⟨y.st.site, y.size⟩ ≠ none by rw [hft]; simp)
                  clear hft
                  refine wpIn_seq (regionIn (by rfl) (by rintro ⟨_, _, h⟩; exact h) ?_)
                  go_wp2_with (first
                    | (refine wpList_load_blk 24 (.tmp 9) rfl rfl HA9.out rfl _ Tryd.underlying24 rfl (by kernel_rfl) ?_)
                    | (refine wpList_lookup_W (.tmp 58) (.tmp 59) true rfl rfl HMF1.out ktNm Tryd.underlying51 (zeroEdV _) ⟨y.st.site, y.size⟩ _ rfl rfl HFT.out ?_)
                    | (refine wpList_store_blk 32 (.tmp 10) (.tmp 61) rfl rfl (Arr.new w1 32 [.int .i64 0, .int .i64 0, .int .i64 0, .int .i64 0, .int .i64 0, .int .i64 0, .int .i64 0, .int .i64 0, .int .i64 0, .int .i64 0, .int .i64 0, .int .i64 0, .int .i64 0, .int .i64 0, .int .i64 0, .int .i64 0, .int .i64 0]) z.cells rfl rfl (by kernel_rfl) rfl rfl ?_))
                  refine wpIn_seq (regionIn (by rfl) (by rintro ⟨_, _, h⟩; exact h) ?_)
                  go_wp2_with fail
                  refine wpIn_cond_true rfl ?_
                  obtain ⟨Wf, hWf⟩ : ∃ W, W = (w1.alloc (.cells #[.int .i64 0, .int .i64 0, .int .i64 0, .int .i64 0, .int .i64 0, .int .i64 0, .int .i64 0, .int .i64 0, .int .i64 0, .int .i64 0, .int .i64 0, .int .i64 0, .int .i64 0, .int .i64 0, .int .i64 0, .int .i64 0, .int .i64 0] 32)).setRow w1.heap.size z.cells.toArray := ⟨_, rfl⟩
                  rw [← hWf] at HXF
                  rw [← hWf]
                  have hxf1 : Ext w1 Wf := by rw [hWf]; exact ((Ext.refl w1).alloc _).setRow (Nat.le_refl _) _
                  have hco := (HOUT.out.ext HXF.out).cell 0
                  rw [List.getElem?_cons_zero] at hco
                  have hb1 := (HBX.out.ext hxf1).cell 1
                  rw [show (nmE y).cells[1]? = some (.int .i64 y.st.seq) from rfl] at hb1
                  have HA9 := Lib.hid (HA9.out.ext hxf1)
                  have HG1 := Lib.hid (HG0.out.ext HXF.out)
                  clear hWf hxf1 h91 hca
                  refine regionIn (by rfl) (by rintro ⟨_, _, h⟩; exact h) ?_
                  go_wp2_with (first
                    | (refine wpList_load_blk 24 (.tmp 9) rfl rfl HA9.out rfl _ Tryd.underlying24 rfl (by kernel_rfl) ?_)
                    | (refine wpList_mapUpdate_F rfl (.tmp 64) (.tmp 65) (.tmp 67) rfl HG1.out ktNm Tryd.underlying55 ⟨y.st.site, y.size⟩ (.int .i64 y.st.seq) rfl rfl rfl ?_; intro We hme hge))
                  have hme2 : MapF nmV We W2.heap.size (mapI (updK G ⟨y.st.site, y.size⟩ y.st.seq)) := hme.cong fun q => mapI_upd G y.st.seq _ q
                  exact ⟨(HW0.out _ _ HXF.out).1.trans (KeepsFrom.of_grownBy hge (fun k e => by injection e with e; omega)), KpB.grown HXF.out hge (by omega) (Nat.le_refl _) (by omega) (by omega),
                    ⟨⟨_, hme2, fun h => (HUN.out h).2 HV1.out c2 HV3.out HFN.out⟩, Nat.le_trans (Nat.le_trans hs3 HXF.out.size) hge.size, (HOUT.out.ext HXF.out).kept hge (fun e => by injection e with e; omega), (HEXT.out.trans HXF.out).grown hge (fun k e => by injection e with e; omega)⟩⟩
              · go_wp2_with (first
                  | (refine wpList_load_blk 24 (.tmp 8) rfl rfl HBX.out rfl _ Tryd.underlying24 rfl (by kernel_rfl) ?_)
                  | (refine wpList_load_blk 24 (.tmp 9) rfl rfl HA9.out rfl _ Tryd.underlying24 rfl (by kernel_rfl) ?_)
                  | (refine wpList_lookup_W (.tmp 40) (.tmp 41) false rfl rfl HG1.out ktNm Tryd.underlying55 (by kernel_rfl) (nmE y) _ rfl rfl HM1.out ?_)
                  | (refine wpList_lookup_W (.tmp 52) (.tmp 53) false rfl rfl HG1.out ktNm Tryd.underlying55 (by kernel_rfl) ⟨y.st.site, y.size⟩ _ rfl rfl HM3.out ?_))
                refine wpIn_cond_false (by simp [Act.eval, c3]) (wpIn_skip ?_)
                exact ⟨(HW0.out _ _ HX1.out).1, (HW0.out 0 _ HX1.out).2, HST.out _ HX1.out (.inr (.inr (.inl (by rw [HV3.out]; exact c3))))⟩
            · go_wp2_with (first
                | (refine wpList_load_blk 24 (.tmp 8) rfl rfl HBX.out rfl _ Tryd.underlying24 rfl (by kernel_rfl) ?_)
                | (refine wpList_load_blk 24 (.tmp 9) rfl rfl HA9.out rfl _ Tryd.underlying24 rfl (by kernel_rfl) ?_)
                | (refine wpList_lookup_W (.tmp 40) (.tmp 41) false rfl rfl HG1.out ktNm Tryd.underlying55 (by kernel_rfl) (nmE y) _ rfl rfl HM1.out ?_)
                | (refine wpList_lookup_W (.tmp 52) (.tmp 53) false rfl rfl HG1.out ktNm Tryd.underlying55 (by kernel_rfl) ⟨y.st.site, y.size⟩ _ rfl rfl HM3.out ?_))
              refine wpIn_cond_false rfl (wpIn_skip ?_)
              exact ⟨(HW0.out _ _ HX1.out).1, (HW0.out 0 _ HX1.out).2, HST.out _ HX1.out (.inr (.inl c2))⟩
          · go_wp2_with (first
              | (refine wpList_load_blk 24 (.tmp 8) rfl rfl HBX.out rfl _ Tryd.underlying24 rfl (by kernel_rfl) ?_)
              | (refine wpList_load_blk 24 (.tmp 9) rfl rfl HA9.out rfl _ Tryd.underlying24 rfl (by kernel_rfl) ?_)
              | (refine wpList_lookup_W (.tmp 40) (.tmp 41) false rfl rfl HG1.out ktNm Tryd.underlying55 (by kernel_rfl) (nmE y) _ rfl rfl HM1.out ?_)
              | (refine wpList_lookup_W (.tmp 52) (.tmp 53) false rfl rfl HG1.out ktNm Tryd.underlying55 (by kernel_rfl) ⟨y.st.site, y.size⟩ _ rfl rfl HM3.out ?_))
            refine wpIn_cond_false rfl (wpIn_skip ?_)
            exact ⟨(HW0.out _ _ HX1.out).1, (HW0.out 0 _ HX1.out).2, HST.out _ HX1.out (.inl (by rw [HV1.out]; exact c1))⟩
      case done =>
        rintro D ys W hD rfl hi hK
        have hco := hi.out.cell 0
        rw [List.getElem?_cons_zero] at hco
        obtain ⟨⟨G, hG1, hG2⟩, _, _, hGx⟩ := hi
        have hfin : RetUn M w (.returned (.map (some W2.heap.size))) (W.putObj D (.deferred none)) := by
          refine ⟨W2.heap.size, G, _, rfl, hG1.kept (grownBy_putObj' W D (.deferred none)) (fun e => by injection e with e; omega), hG2 (List.prefix_refl _), fun x h1 h2 => ?_, ?_, ?_⟩
          · have : nmE x ∈ us.map (·.1) := by
              rw [HUS.out, srtR_mem]
              exact List.mem_map.2 ⟨x, (HMM.out x).2 ⟨h1, h2⟩, rfl⟩
            obtain ⟨u, hu, hue⟩ := List.mem_map.1 this
            obtain ⟨j, hj⟩ := List.getElem?_of_mem hu
            exact ⟨(j, u), bk_mem.2 ⟨Nat.zero_le _, hj⟩, hue⟩
          · have hxw := (HX0.out.trans HX2.out).trans hGx
            exact hxw.grown (grownBy_putObj' W D (.deferred none)) (fun k e => by injection e with e; have := (HX0.out.trans HX2.out).size; omega)
          · exact (HX0.out.trans HX2.out).size
        go_wp2
        refine ⟨by simp, .inl ⟨_, _, rfl, run_takeDeferred hK, ?_⟩⟩
        exact ⟨_, results_tmp Tryd.results32 _ _ _, hfin⟩
      case stop =>
        rintro D c pre W _ _ h _
        exact h.elim
    · intro q v Wn hq hv hrg1 hg1 hs1 hen
      obtain ⟨x, hMx, rfl, rfl⟩ := hF.val hv
      have HQ := Lib.hid hq
      have hlf : leftN Wn bm r < leftN wr bm r := by
        rw [hrg1.count, HRG.out.count, List.length_erase_of_mem hq]
        have := List.length_pos_of_mem hq
        omega
      have HLF := Lib.hid hlf
      have HRG2 := Lib.hid hrg1
      have HX1 := Lib.hid (HX.out.grown hg1 (fun k hk => by injection hk with hk; have := HRB.out; omega))
      have HO1 := Lib.hid (own_keep HO.out hg1 (fun b hb hbb => rng_ne_own HRG.out HO.out (by rw [hbb, hb])))
      clear hrg1 hg1 hs1 hq hv hlf
      have B0 := (Arr.new Wn 24 [.int .i64 0, .int .i64 0]).alloc (.cells #[.int .i64 0, .int .i64 0, .int .i64 0, .int .i64 0, .int .i64 0, .int .i64 0, .int .i64 0, .int .i64 0, .int .i64 0, .int .i64 0, .int .i64 0, .int .i64 0, .int .i64 0, .int .i64 0, .int .i64 0, .int .i64 0, .int .i64 0] 32)
      have B1 := (Arr.new (Wn.alloc (.cells #[.int .i64 0, .int .i64 0] 24)) 32 [.int .i64 0, .int .i64 0, .int .i64 0, .int .i64 0, .int .i64 0, .int .i64 0, .int .i64 0, .int .i64 0, .int .i64 0, .int .i64 0, .int .i64 0, .int .i64 0, .int .i64 0, .int .i64 0, .int .i64 0, .int .i64 0, .int .i64 0]).setRow_other (g := Wn.heap.size) (by rw [World.size_alloc_]; omega) (#[.int .i64 x.st.site, .int .i64 x.st.seq] : Array Value)
      rw [World.size_alloc_] at B1
      have HB0 := Lib.hid B0; have HB1 := Lib.hid B1
      clear B0 B1
      go_upto_region 5 with (first
        | (refine wpList_store_blk 24 (.tmp 4) (.tmp 17) rfl rfl HB0.out [.int .i64 x.st.site, .int .i64 x.st.seq] rfl rfl (by kernel_rfl) rfl rfl ?_)
        | (refine wpList_store_blk 32 (.tmp 5) (.tmp 18) rfl rfl HB1.out x.cells rfl rfl (by kernel_rfl) rfl rfl ?_))
      have hN := (HB0.out.setRow [.int .i64 x.st.site, .int .i64 x.st.seq]).setRow_other (g := Wn.heap.size + 1) (by omega) x.cells.toArray
      have hE := HB1.out.setRow x.cells
      have hx1 : Ext Wn ((((Wn.alloc (.cells #[.int .i64 0, .int .i64 0] 24)).alloc (.cells #[.int .i64 0, .int .i64 0, .int .i64 0, .int .i64 0, .int .i64 0, .int .i64 0, .int .i64 0, .int .i64 0, .int .i64 0, .int .i64 0, .int .i64 0, .int .i64 0, .int .i64 0, .int .i64 0, .int .i64 0, .int .i64 0, .int .i64 0] 32)).setRow Wn.heap.size #[.int .i64 x.st.site, .int .i64 x.st.seq]).setRow (Wn.heap.size + 1) x.cells.toArray) := ((((Ext.refl Wn).alloc _).alloc _).setRow (Nat.le_refl _) _).setRow (by omega) _
      obtain ⟨nb, hnb⟩ : ∃ nb, nb = Wn.heap.size := ⟨_, rfl⟩
      obtain ⟨W2, hW⟩ : ∃ W, W = (((Wn.alloc (.cells #[.int .i64 0, .int .i64 0] 24)).alloc (.cells #[.int .i64 0, .int .i64 0, .int .i64 0, .int .i64 0, .int .i64 0, .int .i64 0, .int .i64 0, .int .i64 0, .int .i64 0, .int .i64 0, .int .i64 0, .int .i64 0, .int .i64 0, .int .i64 0, .int .i64 0, .int .i64 0, .int .i64 0] 32)).setRow Wn.heap.size #[.int .i64 x.st.site, .int .i64 x.st.seq]).setRow (Wn.heap.size + 1) x.cells.toArray := ⟨_, rfl⟩
      rw [← hW, ← hnb] at hN
      rw [← hW, ← hnb] at hE
      rw [← hW] at hx1
      rw [← hW, ← hnb]
      have HN := Lib.hid hN; have HE := Lib.hid hE
      have HO2 := Lib.hid (own_ext HO1.out hx1); have HX2 := Lib.hid (HX1.out.trans hx1); have HRG3 := Lib.hid (HRG2.out.ext hx1)
      have HLF2 := Lib.hid (show leftN W2 bm r < leftN wr bm r by rw [HRG3.out.count, ← HRG2.out.count]; exact HLF.out)
      have hck := HE.out.cell 4
      rw [show x.cells[4]? = some (.int .i64 x.kind) from rfl] at hck
      clear hW hnb hN hE hx1 hen HB0 HB1 HLF
      by_cases hk : x.kind = 6
      · have hn1 : n + 1 ≤ 1034834473200 := by
          have h := hfin (o ++ [x]) (HME.out.step g.undo HRG.out.nodup ⟨hMx, hk⟩ HQ.out).nd (fun y hy => by
            rcases List.mem_append.1 hy with h1 | h1
            · exact ((HME.out.mem y).1 h1).1.1
            · rw [List.mem_singleton] at h1; rw [h1]; exact hMx)
          rw [List.length_append, HON.out] at h
          simpa using h
        have HME2 := Lib.hid (HME.out.step g.undo HRG.out.nodup ⟨hMx, hk⟩ HQ.out)
        have hx6 : Ext W2 (W2.alloc (.cells (nmE x).cells.toArray 24)) := (Ext.refl _).alloc _
        have HSN := Lib.hid (show Sv (W2.alloc (.cells (nmE x).cells.toArray 24)) (W2.alloc (.cells (nmE x).cells.toArray 24)).heap.size 2 (some ⟨W2.heap.size, 0, none⟩) 1 (rowsN [nmE x]) from
          ⟨by simp [rowsN], by decide, rowsN_rwk _, fun _ => ⟨W2.heap.size, 0, rfl, by simp, fun j u hu => by
            rw [Nat.zero_add, cell_of_row _ _ _ _ _ _ (heap_alloc_new W2 _)]
            simpa [rowsN] using hu⟩⟩)
        have HO3 := Lib.hid (own_ext HO2.out hx6)
        have HX3 := Lib.hid (HX2.out.trans hx6)
        have HRG4 := Lib.hid (HRG3.out.ext hx6)
        have HLF3 := Lib.hid (show leftN (W2.alloc (.cells (nmE x).cells.toArray 24)) bm r < leftN wr bm r by rw [HRG4.out.count, ← HRG3.out.count]; exact HLF2.out)
        clear hx6
        go_wp2_with (first
          | (refine wpList_load_blk 24 (.tmp 4) rfl rfl HN.out rfl _ Tryd.underlying24 rfl (by kernel_rfl) ?_)
          | (refine wpList_buildRow rfl 41 24 23 rfl 2 (by decide) (by decide) (nmE x).cells rfl rfl Tryd.underlying41 (by kernel_rfl) (by kernel_rfl) ?_)
          | (at_builtin; refine wpList_append_sv _ rfl (.tmp 22) (.tmp 24) 41 rfl W0.heap.size 24 i0 (.agg #[.int .i64 0, .int .i64 0]) 2 16 Tryd.underlying41 HI.out HZ.out HZ1.out HZ2.out rfl (by decide) _ n _ rfl HO3.out _ _ 1 1 (rowsN [nmE x]) rfl HSN.out rfl (by unfold maxLen; omega) (by omega) HX3.out.size ?_; intro v6 W6 g1 g2 _))
        have HO6 := Lib.hid (show W6.ownsRow W0.heap.size 24 2 v6 (n + 1) (rowsN ((o ++ [x]).map nmE)).flatten by rw [List.map_append, rowsN_append, List.flatten_append]; exact g1)
        have HX6 := Lib.hid (HX3.out.own HO3.out g2 (Nat.le_refl _))
        have HRG6 := Lib.hid (HRG4.out.kept g2 (fun e => map_ne_own HRG4.out.map HO3.out e) (fun e => rng_ne_own HRG4.out HO3.out e))
        obtain ⟨A6, c6, rfl, _⟩ := own_form HO6.out
        clear g1 g2
        go_roundw
        case rel => exact ⟨o ++ [x], n + 1, left.erase (nmE x), some (nmE x), by rw [List.length_append, HON.out]; rfl, hn1, HME2.out, HRG6.out, HO6.out, HX6.out⟩
        case measure => rw [HRG6.out.count, ← HRG4.out.count]; exact HLF3.out
      · have HME2 := Lib.hid (HME.out.skip HRG.out.nodup (q := nmE x) (fun y hy he => hk (by rw [← g.name hy.1 hMx he]; exact hy.2)))
        go_wp2_with fail
        go_roundw
        case rel => exact ⟨o, n, left.erase (nmE x), some (nmE x), HON.out, hn, HME2.out, HRG3.out, HO2.out, HX2.out⟩
        case measure => exact HLF2.out
end Go.Proofs.YtcfebfblmmbeaaaDoor
