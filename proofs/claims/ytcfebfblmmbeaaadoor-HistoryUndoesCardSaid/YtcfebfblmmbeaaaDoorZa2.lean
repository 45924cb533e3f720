/- YtcfebfblmmbeaaaDoorSt · YtcfebfblmmbeaaaDoorEd · YtcfebfblmmbeaaaDoorHa · YtcfebfblmmbeaaaDoorHb · YtcfebfblmmbeaaaDoorGrow · YtcfebfblmmbeaaaDoorLp · YtcfebfblmmbeaaaDoorSv · YtcfebfblmmbeaaaDoorRel · YtcfebfblmmbeaaaDoorDr · YtcfebfblmmbeaaaDoorApp · YtcfebfblmmbeaaaDoorExD · YtcfebfblmmbeaaaDoorCpP -/
import Derived.Deep.DeepAppendRoom
import Derived.Deep.MidRow
import Derived.Maps.AppendAt
import Derived.Test.YtcfebfblmmbeaaaDoorZa1
/- Contracts of the layer of stamps: parts, Valid; the reference's Valid. -/
namespace Go.Proofs.YtcfebfblmmbeaaaDoor
open Go Go.RowKit

structure Sp where
  tick : Int
  clock : Int
  site : Int
  seq : Int
  deriving DecidableEq
def validS (s : Sp) : Bool := decide ((0 ≤ s.tick ∧ s.tick ≤ 4000) ∧ (1 ≤ s.clock ∧ s.clock ≤ 1000000) ∧ (1 ≤ s.site ∧ s.site ≤ 8) ∧ (1 ≤ s.seq ∧ s.seq ≤ 1000))
theorem validS_iff (s : Sp) : validS s = true ↔ ((0 ≤ s.tick ∧ s.tick ≤ 4000) ∧ (1 ≤ s.clock ∧ s.clock ≤ 1000000) ∧ (1 ≤ s.site ∧ s.site ≤ 8) ∧ (1 ≤ s.seq ∧ s.seq ≤ 1000)) := by simp [validS]
theorem validS_no (s : Sp) (h : ¬ ((0 ≤ s.tick ∧ s.tick ≤ 4000) ∧ (1 ≤ s.clock ∧ s.clock ≤ 1000000) ∧ (1 ≤ s.site ∧ s.site ≤ 8) ∧ (1 ≤ s.seq ∧ s.seq ≤ 1000))) : validS s = false := by
  unfold validS; exact decide_eq_false h

set_option maxHeartbeats 1000000 in
theorem parts_any (s : Sp) (w : World) :
    Calls Tryd.prog 65 #[.agg #[.int .i64 s.tick, .int .i64 s.clock, .int .i64 s.site, .int .i64 s.seq]] w fun e w' => e = .returned (.agg #[.int .i64 s.tick, .int .i64 s.clock, .int .i64 s.site, .int .i64 s.seq]) ∧ Ext w w' := by
  go_enter Tryd.func65, Tryd.ntmps65
  go_wp2
  refine bodyPost_ret (v := .agg #[.int .i64 s.tick, .int .i64 s.clock, .int .i64 s.site, .int .i64 s.seq]) ?_ rfl ?_
  · simp (maxDischargeDepth := 9) only [results, Tryd.results65]
    first
      | (go_simp; done)
      | (go_simp; simp; done)
      | (simp (maxDischargeDepth := 9) [go_sem, *]; done)
      | (simp (maxDischargeDepth := 9) [go_sem, *]; simp)
  · exact ⟨rfl, (by repeat (first | with_reducible exact Ext.refl _ | with_reducible assumption | with_reducible refine Ext.alloc ?_ _ | with_reducible refine Ext.drew ?_ | (with_reducible refine Ext.setCell ?_ ?_ _; rotate_left; focus (first | (simp; done) | (simp; omega) | omega)) | (with_reducible refine Ext.setRow ?_ ?_ _; rotate_left; focus (first | (simp; done) | (simp; omega) | omega)) | with_reducible refine Ext.trans ?_ (by with_reducible assumption)))⟩

def okTo (s : Sp) : Nat → Prop
  | 0 => True
  | 1 => (0 ≤ s.tick ∧ s.tick ≤ 4000)
  | 2 => (0 ≤ s.tick ∧ s.tick ≤ 4000) ∧ (1 ≤ s.clock ∧ s.clock ≤ 1000000)
  | 3 => (0 ≤ s.tick ∧ s.tick ≤ 4000) ∧ (1 ≤ s.clock ∧ s.clock ≤ 1000000) ∧ (1 ≤ s.site ∧ s.site ≤ 8)
  | _ => (0 ≤ s.tick ∧ s.tick ≤ 4000) ∧ (1 ≤ s.clock ∧ s.clock ≤ 1000000) ∧ (1 ≤ s.site ∧ s.site ≤ 8) ∧ (1 ≤ s.seq ∧ s.seq ≤ 1000)
theorem ret_inv {a b : Bool} (h : a = b) : Ending.returned (.bool a) = .returned (.bool b) := by rw [h]

set_option maxHeartbeats 2000000 in
theorem Valid_any (s : Sp) (w : World) :
    Calls Tryd.prog 52 #[.agg #[.int .i64 s.tick, .int .i64 s.clock, .int .i64 s.site, .int .i64 s.seq]] w fun e w' => e = .returned (.bool (validS s)) ∧ Ext w w' := by
  have i0 : ∀ w, (Instr.index 82 (.agg #[.int .i64 s.tick, .int .i64 s.clock, .int .i64 s.site, .int .i64 s.seq]) (.int .i64 0)).run Tryd.prog w = .ok (.int .i64 s.tick) w := fun _ => by kernel_rfl
  have i1 : ∀ w, (Instr.index 82 (.agg #[.int .i64 s.tick, .int .i64 s.clock, .int .i64 s.site, .int .i64 s.seq]) (.int .i64 1)).run Tryd.prog w = .ok (.int .i64 s.clock) w := fun _ => by kernel_rfl
  have i2 : ∀ w, (Instr.index 82 (.agg #[.int .i64 s.tick, .int .i64 s.clock, .int .i64 s.site, .int .i64 s.seq]) (.int .i64 2)).run Tryd.prog w = .ok (.int .i64 s.site) w := fun _ => by kernel_rfl
  have i3 : ∀ w, (Instr.index 82 (.agg #[.int .i64 s.tick, .int .i64 s.clock, .int .i64 s.site, .int .i64 s.seq]) (.int .i64 3)).run Tryd.prog w = .ok (.int .i64 s.seq) w := fun _ => by kernel_rfl
  go_enter Tryd.func52, Tryd.ntmps52
  go_wp2_with (first | (go_at_call 65; refine (parts_any s _).mono ?_; rintro e wx ⟨rfl, xx⟩; obtain ⟨xc, xf, xl, xe, xn, xm⟩ := xx.look; have xz := xx.size; (try simp only [World.size_alloc_] at xz); (try (have qh := xx.one (b := w.heap.size) (by (try simp only [World.size_alloc_]); omega); obtain ⟨qc, qf, ql, qe, qn, qm⟩ := qh)); (try (have qh := xx.one (b := w.heap.size + 1) (by (try simp only [World.size_alloc_]); omega); obtain ⟨qc, qf, ql, qe, qn, qm⟩ := qh)); (try (have qh := xx.one (b := w.heap.size + 1 + 1) (by (try simp only [World.size_alloc_]); omega); obtain ⟨qc, qf, ql, qe, qn, qm⟩ := qh)); (try (have qh := xx.one (b := w.heap.size + 1 + 1 + 1) (by (try simp only [World.size_alloc_]); omega); obtain ⟨qc, qf, ql, qe, qn, qm⟩ := qh))))
  go_loop [11] (fun i => ∃ k : Nat, k ≤ 4 ∧ i = .int .i64 k ∧ okTo s k) (fun i => 4 - (intOf i).toNat)
  case atStart => exact ⟨0, by omega, rfl, trivial⟩
  case round =>
    obtain ⟨k, hk, rfl, ho⟩ := hrel
    obtain rfl | rfl | rfl | rfl | rfl : k = 0 ∨ k = 1 ∨ k = 2 ∨ k = 3 ∨ k = 4 := by omega
    all_goals have HO := Lib.hid ho; clear ho
    · go_wp2
      all_goals first
        | (go_round
           case rel => exact ⟨1, by omega, rfl, by have h := HO.out; simp only [okTo] at h ⊢; omega⟩
           case measure => simp [intOf])
        | (go_ret
           exact ⟨ret_bool (validS_no _ (by omega)).symm, (by repeat (first | with_reducible exact Ext.refl _ | with_reducible assumption | with_reducible refine Ext.alloc ?_ _ | with_reducible refine Ext.drew ?_ | (with_reducible refine Ext.setCell ?_ ?_ _; rotate_left; focus (first | (simp; done) | (simp; omega) | omega)) | (with_reducible refine Ext.setRow ?_ ?_ _; rotate_left; focus (first | (simp; done) | (simp; omega) | omega)) | with_reducible refine Ext.trans ?_ (by with_reducible assumption)))⟩)
    · go_wp2
      all_goals first
        | (go_round
           case rel => exact ⟨2, by omega, rfl, by have h := HO.out; simp only [okTo] at h ⊢; omega⟩
           case measure => simp [intOf])
        | (go_ret
           exact ⟨ret_bool (validS_no _ (by omega)).symm, (by repeat (first | with_reducible exact Ext.refl _ | with_reducible assumption | with_reducible refine Ext.alloc ?_ _ | with_reducible refine Ext.drew ?_ | (with_reducible refine Ext.setCell ?_ ?_ _; rotate_left; focus (first | (simp; done) | (simp; omega) | omega)) | (with_reducible refine Ext.setRow ?_ ?_ _; rotate_left; focus (first | (simp; done) | (simp; omega) | omega)) | with_reducible refine Ext.trans ?_ (by with_reducible assumption)))⟩)
    · go_wp2
      all_goals first
        | (go_round
           case rel => exact ⟨3, by omega, rfl, by have h := HO.out; simp only [okTo] at h ⊢; omega⟩
           case measure => simp [intOf])
        | (go_ret
           exact ⟨ret_bool (validS_no _ (by omega)).symm, (by repeat (first | with_reducible exact Ext.refl _ | with_reducible assumption | with_reducible refine Ext.alloc ?_ _ | with_reducible refine Ext.drew ?_ | (with_reducible refine Ext.setCell ?_ ?_ _; rotate_left; focus (first | (simp; done) | (simp; omega) | omega)) | (with_reducible refine Ext.setRow ?_ ?_ _; rotate_left; focus (first | (simp; done) | (simp; omega) | omega)) | with_reducible refine Ext.trans ?_ (by with_reducible assumption)))⟩)
    · go_wp2
      all_goals first
        | (go_round
           case rel => exact ⟨4, by omega, rfl, by have h := HO.out; simp only [okTo] at h ⊢; omega⟩
           case measure => simp [intOf])
        | (go_ret
           exact ⟨ret_bool (validS_no _ (by omega)).symm, (by repeat (first | with_reducible exact Ext.refl _ | with_reducible assumption | with_reducible refine Ext.alloc ?_ _ | with_reducible refine Ext.drew ?_ | (with_reducible refine Ext.setCell ?_ ?_ _; rotate_left; focus (first | (simp; done) | (simp; omega) | omega)) | (with_reducible refine Ext.setRow ?_ ?_ _; rotate_left; focus (first | (simp; done) | (simp; omega) | omega)) | with_reducible refine Ext.trans ?_ (by with_reducible assumption)))⟩)
    · have hv := (validS_iff s).2 HO.out
      have HV := Lib.hid hv; clear hv
      go_wp2
      go_ret
      exact ⟨ret_bool HV.out.symm, (by repeat (first | with_reducible exact Ext.refl _ | with_reducible assumption | with_reducible refine Ext.alloc ?_ _ | with_reducible refine Ext.drew ?_ | (with_reducible refine Ext.setCell ?_ ?_ _; rotate_left; focus (first | (simp; done) | (simp; omega) | omega)) | (with_reducible refine Ext.setRow ?_ ?_ _; rotate_left; focus (first | (simp; done) | (simp; omega) | omega)) | with_reducible refine Ext.trans ?_ (by with_reducible assumption)))⟩

set_option maxHeartbeats 1000000 in
theorem within24_any (n lo hi : Int) (w : World) :
    Calls Tryd.prog 51 #[.int .i64 n, .int .i64 lo, .int .i64 hi] w fun e w' => e = .returned (.bool (decide (lo ≤ n ∧ n ≤ hi))) ∧ Ext w w' := by
  go_enter Tryd.func51, Tryd.ntmps51
  go_wp2
  all_goals
    go_ret
    refine ⟨ret_bool ?_, (by repeat (first | with_reducible exact Ext.refl _ | with_reducible assumption | with_reducible refine Ext.alloc ?_ _ | with_reducible refine Ext.drew ?_ | (with_reducible refine Ext.setCell ?_ ?_ _; rotate_left; focus (first | (simp; done) | (simp; omega) | omega)) | (with_reducible refine Ext.setRow ?_ ?_ _; rotate_left; focus (first | (simp; done) | (simp; omega) | omega)) | with_reducible refine Ext.trans ?_ (by with_reducible assumption)))⟩
    rw [Bool.eq_iff_iff]
    simp
    try omega
theorem validS_and (s : Sp) : (decide (0 ≤ s.tick ∧ s.tick ≤ 4000) && (decide (1 ≤ s.clock ∧ s.clock ≤ 1000000) && (decide (1 ≤ s.site ∧ s.site ≤ 8) && decide (1 ≤ s.seq ∧ s.seq ≤ 1000)))) = validS s := by
  rw [Bool.eq_iff_iff]; simp [validS]
set_option maxHeartbeats 1000000 in
theorem refValid24_any (s : Sp) (w : World) :
    Calls Tryd.prog 42 #[.agg #[.int .i64 s.tick, .int .i64 s.clock, .int .i64 s.site, .int .i64 s.seq]] w fun e w' => e = .returned (.bool (validS s)) ∧ Ext w w' := by
  rw [← validS_and]
  generalize h0 : decide (0 ≤ s.tick ∧ s.tick ≤ 4000) = b0
  generalize h1 : decide (1 ≤ s.clock ∧ s.clock ≤ 1000000) = b1
  generalize h2 : decide (1 ≤ s.site ∧ s.site ≤ 8) = b2
  generalize h3 : decide (1 ≤ s.seq ∧ s.seq ≤ 1000) = b3
  have c0 := fun w => within24_any s.tick 0 4000 w
  have c1 := fun w => within24_any s.clock 1 1000000 w
  have c2 := fun w => within24_any s.site 1 8 w
  have c3 := fun w => within24_any s.seq 1 1000 w
  rw [h0] at c0; rw [h1] at c1; rw [h2] at c2; rw [h3] at c3
  have C0 := Lib.hid c0; have C1 := Lib.hid c1; have C2 := Lib.hid c2; have C3 := Lib.hid c3
  clear c0 c1 c2 c3 h0 h1 h2 h3
  go_enter Tryd.func42, Tryd.ntmps42
  go_wp2_with fail
  refine (C0.out _).mono ?_; rintro e wx ⟨rfl, xx⟩; obtain ⟨xc, xf, xl, xe, xn, xm⟩ := xx.look; have xz := xx.size; (try simp only [World.size_alloc_] at xz); (try (have qh := xx.one (b := w.heap.size) (by (try simp only [World.size_alloc_]); omega); obtain ⟨qc, qf, ql, qe, qn, qm⟩ := qh)); (try (have qh := xx.one (b := w.heap.size + 1) (by (try simp only [World.size_alloc_]); omega); obtain ⟨qc, qf, ql, qe, qn, qm⟩ := qh)); (try (have qh := xx.one (b := w.heap.size + 1 + 1) (by (try simp only [World.size_alloc_]); omega); obtain ⟨qc, qf, ql, qe, qn, qm⟩ := qh)); (try (have qh := xx.one (b := w.heap.size + 1 + 1 + 1) (by (try simp only [World.size_alloc_]); omega); obtain ⟨qc, qf, ql, qe, qn, qm⟩ := qh))
  cases b0
  · go_wp2
    go_ret
    exact ⟨rfl, (by repeat (first | with_reducible exact Ext.refl _ | with_reducible assumption | with_reducible refine Ext.alloc ?_ _ | with_reducible refine Ext.drew ?_ | (with_reducible refine Ext.setCell ?_ ?_ _; rotate_left; focus (first | (simp; done) | (simp; omega) | omega)) | (with_reducible refine Ext.setRow ?_ ?_ _; rotate_left; focus (first | (simp; done) | (simp; omega) | omega)) | with_reducible refine Ext.trans ?_ (by with_reducible assumption)))⟩
  go_wp2_with fail
  refine (C1.out _).mono ?_; rintro e wx ⟨rfl, xx⟩; obtain ⟨xc, xf, xl, xe, xn, xm⟩ := xx.look; have xz := xx.size; (try simp only [World.size_alloc_, World.size_setCell_] at xz); (try (have qh := xx.one (b := w.heap.size) (by (try simp only [World.size_alloc_, World.size_setCell_]); omega); obtain ⟨qc, qf, ql, qe, qn, qm⟩ := qh)); (try (have qh := xx.one (b := w.heap.size + 1) (by (try simp only [World.size_alloc_, World.size_setCell_]); omega); obtain ⟨qc, qf, ql, qe, qn, qm⟩ := qh)); (try (have qh := xx.one (b := w.heap.size + 1 + 1) (by (try simp only [World.size_alloc_, World.size_setCell_]); omega); obtain ⟨qc, qf, ql, qe, qn, qm⟩ := qh)); (try (have qh := xx.one (b := w.heap.size + 1 + 1 + 1) (by (try simp only [World.size_alloc_, World.size_setCell_]); omega); obtain ⟨qc, qf, ql, qe, qn, qm⟩ := qh))
  cases b1
  · go_wp2
    go_ret
    exact ⟨rfl, (by repeat (first | with_reducible exact Ext.refl _ | with_reducible assumption | with_reducible refine Ext.alloc ?_ _ | with_reducible refine Ext.drew ?_ | (with_reducible refine Ext.setCell ?_ ?_ _; rotate_left; focus (first | (simp; done) | (simp; omega) | omega)) | (with_reducible refine Ext.setRow ?_ ?_ _; rotate_left; focus (first | (simp; done) | (simp; omega) | omega)) | with_reducible refine Ext.trans ?_ (by with_reducible assumption)))⟩
  go_wp2_with fail
  refine (C2.out _).mono ?_; rintro e wx ⟨rfl, xx⟩; obtain ⟨xc, xf, xl, xe, xn, xm⟩ := xx.look; have xz := xx.size; (try simp only [World.size_alloc_, World.size_setCell_] at xz); (try (have qh := xx.one (b := w.heap.size) (by (try simp only [World.size_alloc_, World.size_setCell_]); omega); obtain ⟨qc, qf, ql, qe, qn, qm⟩ := qh)); (try (have qh := xx.one (b := w.heap.size + 1) (by (try simp only [World.size_alloc_, World.size_setCell_]); omega); obtain ⟨qc, qf, ql, qe, qn, qm⟩ := qh)); (try (have qh := xx.one (b := w.heap.size + 1 + 1) (by (try simp only [World.size_alloc_, World.size_setCell_]); omega); obtain ⟨qc, qf, ql, qe, qn, qm⟩ := qh)); (try (have qh := xx.one (b := w.heap.size + 1 + 1 + 1) (by (try simp only [World.size_alloc_, World.size_setCell_]); omega); obtain ⟨qc, qf, ql, qe, qn, qm⟩ := qh))
  cases b2
  · go_wp2
    go_ret
    exact ⟨rfl, (by repeat (first | with_reducible exact Ext.refl _ | with_reducible assumption | with_reducible refine Ext.alloc ?_ _ | with_reducible refine Ext.drew ?_ | (with_reducible refine Ext.setCell ?_ ?_ _; rotate_left; focus (first | (simp; done) | (simp; omega) | omega)) | (with_reducible refine Ext.setRow ?_ ?_ _; rotate_left; focus (first | (simp; done) | (simp; omega) | omega)) | with_reducible refine Ext.trans ?_ (by with_reducible assumption)))⟩
  go_wp2_with fail
  refine (C3.out _).mono ?_; rintro e wx ⟨rfl, xx⟩; obtain ⟨xc, xf, xl, xe, xn, xm⟩ := xx.look; have xz := xx.size; (try simp only [World.size_alloc_, World.size_setCell_] at xz); (try (have qh := xx.one (b := w.heap.size) (by (try simp only [World.size_alloc_, World.size_setCell_]); omega); obtain ⟨qc, qf, ql, qe, qn, qm⟩ := qh)); (try (have qh := xx.one (b := w.heap.size + 1) (by (try simp only [World.size_alloc_, World.size_setCell_]); omega); obtain ⟨qc, qf, ql, qe, qn, qm⟩ := qh)); (try (have qh := xx.one (b := w.heap.size + 1 + 1) (by (try simp only [World.size_alloc_, World.size_setCell_]); omega); obtain ⟨qc, qf, ql, qe, qn, qm⟩ := qh)); (try (have qh := xx.one (b := w.heap.size + 1 + 1 + 1) (by (try simp only [World.size_alloc_, World.size_setCell_]); omega); obtain ⟨qc, qf, ql, qe, qn, qm⟩ := qh))
  go_wp2
  go_ret
  exact ⟨by simp, (by repeat (first | with_reducible exact Ext.refl _ | with_reducible assumption | with_reducible refine Ext.alloc ?_ _ | with_reducible refine Ext.drew ?_ | (with_reducible refine Ext.setCell ?_ ?_ _; rotate_left; focus (first | (simp; done) | (simp; omega) | omega)) | (with_reducible refine Ext.setRow ?_ ?_ _; rotate_left; focus (first | (simp; done) | (simp; omega) | omega)) | with_reducible refine Ext.trans ?_ (by with_reducible assumption)))⟩
end Go.Proofs.YtcfebfblmmbeaaaDoor

/- Contracts of the layer of edits, without encodings: within, uses, Formed, sizes, Check. -/
namespace Go.Proofs.YtcfebfblmmbeaaaDoor
open Go Go.RowKit

structure Ed where
  st : Sp
  kind : Int
  box : Bx
  at_ : Pt
  turn : Int
  cell : Int
  size : Int
  deriving DecidableEq
def rowF : Nat → Int
  | 0 => 0
  | 1 => 9
  | 2 => 26
  | 3 => 13
  | 4 => 7
  | 5 => 26
  | 6 => 16
  | 7 => 17
  | _ => 16
/-- The table of the kinds is there. -/
structure RowsIn (w : World) : Prop where
  at_ : ∀ i, i < 9 → w.cell? ⟨0, 2 * i + 1, none⟩ = some (.int .i64 (rowF i))
  lt : 0 < w.heap.size
theorem RowsIn.ext {w w' : World} (h : RowsIn w) (hx : Ext w w') : RowsIn w' := ⟨fun i hi => (hx.cell (p := ⟨0, 2 * i + 1, none⟩) h.lt).trans (h.at_ i hi), Nat.lt_of_lt_of_le h.lt hx.size⟩
def usesF (k f : Int) : Bool :=
  if f = 1 then k == 1 || k == 3 || k == 4 || k == 7 else if f = 2 then k == 2 || k == 4 || k == 5 else if f = 4 then k == 3 || k == 4 else if f = 8 then k == 1 || k == 2 || k == 3 || k == 5 else k == 2 || k == 5 || k == 6 || k == 7 || k == 8

set_option maxHeartbeats 1000000 in
theorem withinE_any (n lo hi : Int) (w : World) :
    Calls Tryd.prog 53 #[.int .i64 n, .int .i64 lo, .int .i64 hi] w fun e w' => e = .returned (.bool (decide (lo ≤ n ∧ n ≤ hi))) ∧ Ext w w' := by
  go_enter Tryd.func53, Tryd.ntmps53
  go_wp2
  all_goals
    go_ret
    refine ⟨ret_bool ?_, (by repeat (first | with_reducible exact Ext.refl _ | with_reducible assumption | with_reducible refine Ext.alloc ?_ _ | with_reducible refine Ext.drew ?_ | (with_reducible refine Ext.setCell ?_ ?_ _; rotate_left; focus (first | (simp; done) | (simp; omega) | omega)) | (with_reducible refine Ext.setRow ?_ ?_ _; rotate_left; focus (first | (simp; done) | (simp; omega) | omega)) | with_reducible refine Ext.trans ?_ (by with_reducible assumption)))⟩
    rw [Bool.eq_iff_iff]
    simp
    try omega
theorem withinE_is (n lo hi : Int) (b : Bool) (hb : decide (lo ≤ n ∧ n ≤ hi) = b) (w : World) :
    Calls Tryd.prog 53 #[.int .i64 n, .int .i64 lo, .int .i64 hi] w fun e w' => e = .returned (.bool b) ∧ Ext w w' := hb ▸ withinE_any n lo hi w
set_option maxHeartbeats 2000000 in
theorem uses_any (k f : Int) (hk : 0 ≤ k ∧ k ≤ 8) (hf : f = 1 ∨ f = 2 ∨ f = 4 ∨ f = 8 ∨ f = 16) (w : World) (hR : RowsIn w) :
    Calls Tryd.prog 54 #[.int .i64 k, .int .i64 f] w fun e w' => e = .returned (.bool (usesF k f)) ∧ Ext w w' := by
  obtain ⟨i, rfl⟩ : ∃ i : Nat, k = i := ⟨k.toNat, by omega⟩
  obtain rfl | rfl | rfl | rfl | rfl | rfl | rfl | rfl | rfl : i = 0 ∨ i = 1 ∨ i = 2 ∨ i = 3 ∨ i = 4 ∨ i = 5 ∨ i = 6 ∨ i = 7 ∨ i = 8 := by omega
  · have hc := hR.at_ 0 (by omega)
    simp only [rowF, Nat.reduceMul, Nat.reduceAdd] at hc
    clear hR hk
    rcases hf with rfl | rfl | rfl | rfl | rfl
    all_goals
      go_enter Tryd.func54, Tryd.ntmps54
      go_wp2
      go_ret
      exact ⟨ret_bool (by decide), (by repeat (first | with_reducible exact Ext.refl _ | with_reducible assumption | with_reducible refine Ext.alloc ?_ _ | with_reducible refine Ext.drew ?_ | (with_reducible refine Ext.setCell ?_ ?_ _; rotate_left; focus (first | (simp; done) | (simp; omega) | omega)) | (with_reducible refine Ext.setRow ?_ ?_ _; rotate_left; focus (first | (simp; done) | (simp; omega) | omega)) | with_reducible refine Ext.trans ?_ (by with_reducible assumption)))⟩
  · have hc := hR.at_ 1 (by omega)
    simp only [rowF, Nat.reduceMul, Nat.reduceAdd] at hc
    clear hR hk
    rcases hf with rfl | rfl | rfl | rfl | rfl
    all_goals
      go_enter Tryd.func54, Tryd.ntmps54
      go_wp2
      go_ret
      exact ⟨ret_bool (by decide), (by repeat (first | with_reducible exact Ext.refl _ | with_reducible assumption | with_reducible refine Ext.alloc ?_ _ | with_reducible refine Ext.drew ?_ | (with_reducible refine Ext.setCell ?_ ?_ _; rotate_left; focus (first | (simp; done) | (simp; omega) | omega)) | (with_reducible refine Ext.setRow ?_ ?_ _; rotate_left; focus (first | (simp; done) | (simp; omega) | omega)) | with_reducible refine Ext.trans ?_ (by with_reducible assumption)))⟩
  · have hc := hR.at_ 2 (by omega)
    simp only [rowF, Nat.reduceMul, Nat.reduceAdd] at hc
    clear hR hk
    rcases hf with rfl | rfl | rfl | rfl | rfl
    all_goals
      go_enter Tryd.func54, Tryd.ntmps54
      go_wp2
      go_ret
      exact ⟨ret_bool (by decide), (by repeat (first | with_reducible exact Ext.refl _ | with_reducible assumption | with_reducible refine Ext.alloc ?_ _ | with_reducible refine Ext.drew ?_ | (with_reducible refine Ext.setCell ?_ ?_ _; rotate_left; focus (first | (simp; done) | (simp; omega) | omega)) | (with_reducible refine Ext.setRow ?_ ?_ _; rotate_left; focus (first | (simp; done) | (simp; omega) | omega)) | with_reducible refine Ext.trans ?_ (by with_reducible assumption)))⟩
  · have hc := hR.at_ 3 (by omega)
    simp only [rowF, Nat.reduceMul, Nat.reduceAdd] at hc
    clear hR hk
    rcases hf with rfl | rfl | rfl | rfl | rfl
    all_goals
      go_enter Tryd.func54, Tryd.ntmps54
      go_wp2
      go_ret
      exact ⟨ret_bool (by decide), (by repeat (first | with_reducible exact Ext.refl _ | with_reducible assumption | with_reducible refine Ext.alloc ?_ _ | with_reducible refine Ext.drew ?_ | (with_reducible refine Ext.setCell ?_ ?_ _; rotate_left; focus (first | (simp; done) | (simp; omega) | omega)) | (with_reducible refine Ext.setRow ?_ ?_ _; rotate_left; focus (first | (simp; done) | (simp; omega) | omega)) | with_reducible refine Ext.trans ?_ (by with_reducible assumption)))⟩
  · have hc := hR.at_ 4 (by omega)
    simp only [rowF, Nat.reduceMul, Nat.reduceAdd] at hc
    clear hR hk
    rcases hf with rfl | rfl | rfl | rfl | rfl
    all_goals
      go_enter Tryd.func54, Tryd.ntmps54
      go_wp2
      go_ret
      exact ⟨ret_bool (by decide), (by repeat (first | with_reducible exact Ext.refl _ | with_reducible assumption | with_reducible refine Ext.alloc ?_ _ | with_reducible refine Ext.drew ?_ | (with_reducible refine Ext.setCell ?_ ?_ _; rotate_left; focus (first | (simp; done) | (simp; omega) | omega)) | (with_reducible refine Ext.setRow ?_ ?_ _; rotate_left; focus (first | (simp; done) | (simp; omega) | omega)) | with_reducible refine Ext.trans ?_ (by with_reducible assumption)))⟩
  · have hc := hR.at_ 5 (by omega)
    simp only [rowF, Nat.reduceMul, Nat.reduceAdd] at hc
    clear hR hk
    rcases hf with rfl | rfl | rfl | rfl | rfl
    all_goals
      go_enter Tryd.func54, Tryd.ntmps54
      go_wp2
      go_ret
      exact ⟨ret_bool (by decide), (by repeat (first | with_reducible exact Ext.refl _ | with_reducible assumption | with_reducible refine Ext.alloc ?_ _ | with_reducible refine Ext.drew ?_ | (with_reducible refine Ext.setCell ?_ ?_ _; rotate_left; focus (first | (simp; done) | (simp; omega) | omega)) | (with_reducible refine Ext.setRow ?_ ?_ _; rotate_left; focus (first | (simp; done) | (simp; omega) | omega)) | with_reducible refine Ext.trans ?_ (by with_reducible assumption)))⟩
  · have hc := hR.at_ 6 (by omega)
    simp only [rowF, Nat.reduceMul, Nat.reduceAdd] at hc
    clear hR hk
    rcases hf with rfl | rfl | rfl | rfl | rfl
    all_goals
      go_enter Tryd.func54, Tryd.ntmps54
      go_wp2
      go_ret
      exact ⟨ret_bool (by decide), (by repeat (first | with_reducible exact Ext.refl _ | with_reducible assumption | with_reducible refine Ext.alloc ?_ _ | with_reducible refine Ext.drew ?_ | (with_reducible refine Ext.setCell ?_ ?_ _; rotate_left; focus (first | (simp; done) | (simp; omega) | omega)) | (with_reducible refine Ext.setRow ?_ ?_ _; rotate_left; focus (first | (simp; done) | (simp; omega) | omega)) | with_reducible refine Ext.trans ?_ (by with_reducible assumption)))⟩
  · have hc := hR.at_ 7 (by omega)
    simp only [rowF, Nat.reduceMul, Nat.reduceAdd] at hc
    clear hR hk
    rcases hf with rfl | rfl | rfl | rfl | rfl
    all_goals
      go_enter Tryd.func54, Tryd.ntmps54
      go_wp2
      go_ret
      exact ⟨ret_bool (by decide), (by repeat (first | with_reducible exact Ext.refl _ | with_reducible assumption | with_reducible refine Ext.alloc ?_ _ | with_reducible refine Ext.drew ?_ | (with_reducible refine Ext.setCell ?_ ?_ _; rotate_left; focus (first | (simp; done) | (simp; omega) | omega)) | (with_reducible refine Ext.setRow ?_ ?_ _; rotate_left; focus (first | (simp; done) | (simp; omega) | omega)) | with_reducible refine Ext.trans ?_ (by with_reducible assumption)))⟩
  · have hc := hR.at_ 8 (by omega)
    simp only [rowF, Nat.reduceMul, Nat.reduceAdd] at hc
    clear hR hk
    rcases hf with rfl | rfl | rfl | rfl | rfl
    all_goals
      go_enter Tryd.func54, Tryd.ntmps54
      go_wp2
      go_ret
      exact ⟨ret_bool (by decide), (by repeat (first | with_reducible exact Ext.refl _ | with_reducible assumption | with_reducible refine Ext.alloc ?_ _ | with_reducible refine Ext.drew ?_ | (with_reducible refine Ext.setCell ?_ ?_ _; rotate_left; focus (first | (simp; done) | (simp; omega) | omega)) | (with_reducible refine Ext.setRow ?_ ?_ _; rotate_left; focus (first | (simp; done) | (simp; omega) | omega)) | with_reducible refine Ext.trans ?_ (by with_reducible assumption)))⟩
theorem uses_is (k f : Int) (b : Bool) (hk : 0 ≤ k ∧ k ≤ 8) (hf : f = 1 ∨ f = 2 ∨ f = 4 ∨ f = 8 ∨ f = 16) (hb : usesF k f = b) (w : World) (hR : RowsIn w) :
    Calls Tryd.prog 54 #[.int .i64 k, .int .i64 f] w fun e w' => e = .returned (.bool b) ∧ Ext w w' := hb ▸ uses_any k f hk hf w hR
def formedE (x : Ed) : Bool := validS x.st && (decide (1 ≤ x.kind ∧ x.kind ≤ 8) && ((usesF x.kind 1 || decide (x.box = zeroBx)) && ((usesF x.kind 2 || decide (x.at_ = zeroPt)) && ((usesF x.kind 4 || decide (x.turn = 0)) && ((usesF x.kind 8 || decide (x.cell = 0)) && (usesF x.kind 16 || decide (x.size = 0)))))))
theorem eqBx_run (a b : Bx) (w : World) : (binOp .eql 30 (.agg #[.int .i64 a.lo.x, .int .i64 a.lo.y, .int .i64 a.lo.z, .int .i64 a.hi.x, .int .i64 a.hi.y, .int .i64 a.hi.z]) (.agg #[.int .i64 b.lo.x, .int .i64 b.lo.y, .int .i64 b.lo.z, .int .i64 b.hi.x, .int .i64 b.hi.y, .int .i64 b.hi.z])).run Tryd.prog w = .ok (.bool (decide (a = b))) w := by
  obtain ⟨⟨a1, a2, a3⟩, ⟨a4, a5, a6⟩⟩ := a
  obtain ⟨⟨b1, b2, b3⟩, ⟨b4, b5, b6⟩⟩ := b
  simp [go_sem]
  by_cases h1 : a1 = b1 <;> by_cases h2 : a2 = b2 <;> by_cases h3 : a3 = b3 <;> by_cases h4 : a4 = b4 <;> by_cases h5 : a5 = b5 <;> by_cases h6 : a6 = b6 <;> simp [h1, h2, h3, h4, h5, h6]
theorem eqPt_run (a b : Pt) (w : World) : (binOp .eql 28 (.agg #[.int .i64 a.x, .int .i64 a.y, .int .i64 a.z]) (.agg #[.int .i64 b.x, .int .i64 b.y, .int .i64 b.z])).run Tryd.prog w = .ok (.bool (decide (a = b))) w := by
  obtain ⟨a1, a2, a3⟩ := a
  obtain ⟨b1, b2, b3⟩ := b
  simp [go_sem]
  by_cases h1 : a1 = b1 <;> by_cases h2 : a2 = b2 <;> by_cases h3 : a3 = b3 <;> simp [h1, h2, h3]
theorem formedE_def (x : Ed) : formedE x = (validS x.st && (decide (1 ≤ x.kind ∧ x.kind ≤ 8) && ((usesF x.kind 1 || decide (x.box = zeroBx)) && ((usesF x.kind 2 || decide (x.at_ = zeroPt)) && ((usesF x.kind 4 || decide (x.turn = 0)) && ((usesF x.kind 8 || decide (x.cell = 0)) && (usesF x.kind 16 || decide (x.size = 0)))))))) := rfl
set_option maxHeartbeats 4000000 in
theorem Formed_bad (x : Ed) (w : World) (h : validS x.st = false ∨ ¬ (1 ≤ x.kind ∧ x.kind ≤ 8)) :
    Calls Tryd.prog 43 #[.agg #[.int .i64 x.st.tick, .int .i64 x.st.clock, .int .i64 x.st.site, .int .i64 x.st.seq, .int .i64 x.kind, .int .i64 x.box.lo.x, .int .i64 x.box.lo.y, .int .i64 x.box.lo.z, .int .i64 x.box.hi.x, .int .i64 x.box.hi.y, .int .i64 x.box.hi.z, .int .i64 x.at_.x, .int .i64 x.at_.y, .int .i64 x.at_.z, .int .i64 x.turn, .int .i64 x.cell, .int .i64 x.size]] w fun e w' => e = .returned (.bool false) ∧ Ext w w' := by
  have hv := fun w => Valid_any x.st w
  cases hq : validS x.st
  all_goals
    rw [hq] at hv h
    have HV := Lib.hid hv
    clear hv hq
  · clear h
    go_enter Tryd.func43, Tryd.ntmps43
    go_wp2_with (first | (go_at_call 52; refine (HV.out _).mono ?_; rintro e wx ⟨rfl, xx⟩; obtain ⟨xc, xf, xl, xe, xn, xm⟩ := xx.look; have xz := xx.size; (try simp only [World.size_alloc_] at xz); (try (have qh := xx.one (b := w.heap.size) (by (try simp only [World.size_alloc_]); omega); obtain ⟨qc, qf, ql, qe, qn, qm⟩ := qh)); (try (have qh := xx.one (b := w.heap.size + 1) (by (try simp only [World.size_alloc_]); omega); obtain ⟨qc, qf, ql, qe, qn, qm⟩ := qh)); (try (have qh := xx.one (b := w.heap.size + 1 + 1) (by (try simp only [World.size_alloc_]); omega); obtain ⟨qc, qf, ql, qe, qn, qm⟩ := qh)); (try (have qh := xx.one (b := w.heap.size + 1 + 1 + 1) (by (try simp only [World.size_alloc_]); omega); obtain ⟨qc, qf, ql, qe, qn, qm⟩ := qh))))
    go_ret
    exact ⟨rfl, (by repeat (first | with_reducible exact Ext.refl _ | with_reducible assumption | with_reducible refine Ext.alloc ?_ _ | with_reducible refine Ext.drew ?_ | (with_reducible refine Ext.setCell ?_ ?_ _; rotate_left; focus (first | (simp; done) | (simp; omega) | omega)) | (with_reducible refine Ext.setRow ?_ ?_ _; rotate_left; focus (first | (simp; done) | (simp; omega) | omega)) | with_reducible refine Ext.trans ?_ (by with_reducible assumption)))⟩
  · have hk : decide (1 ≤ x.kind ∧ x.kind ≤ 8) = false := by simpa using h
    have HK := Lib.hid (withinE_is x.kind 1 8 false hk)
    clear hk h
    go_enter Tryd.func43, Tryd.ntmps43
    go_wp2_with (first | (go_at_call 52; refine (HV.out _).mono ?_; rintro e wx ⟨rfl, xx⟩; obtain ⟨xc, xf, xl, xe, xn, xm⟩ := xx.look; have xz := xx.size; (try simp only [World.size_alloc_] at xz); (try (have qh := xx.one (b := w.heap.size) (by (try simp only [World.size_alloc_]); omega); obtain ⟨qc, qf, ql, qe, qn, qm⟩ := qh)); (try (have qh := xx.one (b := w.heap.size + 1) (by (try simp only [World.size_alloc_]); omega); obtain ⟨qc, qf, ql, qe, qn, qm⟩ := qh)); (try (have qh := xx.one (b := w.heap.size + 1 + 1) (by (try simp only [World.size_alloc_]); omega); obtain ⟨qc, qf, ql, qe, qn, qm⟩ := qh)); (try (have qh := xx.one (b := w.heap.size + 1 + 1 + 1) (by (try simp only [World.size_alloc_]); omega); obtain ⟨qc, qf, ql, qe, qn, qm⟩ := qh))) | (go_at_call 53; refine (HK.out _).mono ?_; rintro e wx ⟨rfl, xx⟩; obtain ⟨xc, xf, xl, xe, xn, xm⟩ := xx.look; have xz := xx.size; (try simp only [World.size_alloc_, World.size_setCell_] at xz); (try (have qh := xx.one (b := w.heap.size) (by (try simp only [World.size_alloc_, World.size_setCell_]); omega); obtain ⟨qc, qf, ql, qe, qn, qm⟩ := qh)); (try (have qh := xx.one (b := w.heap.size + 1) (by (try simp only [World.size_alloc_, World.size_setCell_]); omega); obtain ⟨qc, qf, ql, qe, qn, qm⟩ := qh)); (try (have qh := xx.one (b := w.heap.size + 1 + 1) (by (try simp only [World.size_alloc_, World.size_setCell_]); omega); obtain ⟨qc, qf, ql, qe, qn, qm⟩ := qh)); (try (have qh := xx.one (b := w.heap.size + 1 + 1 + 1) (by (try simp only [World.size_alloc_, World.size_setCell_]); omega); obtain ⟨qc, qf, ql, qe, qn, qm⟩ := qh))))
    go_ret
    exact ⟨rfl, (by repeat (first | with_reducible exact Ext.refl _ | with_reducible assumption | with_reducible refine Ext.alloc ?_ _ | with_reducible refine Ext.drew ?_ | (with_reducible refine Ext.setCell ?_ ?_ _; rotate_left; focus (first | (simp; done) | (simp; omega) | omega)) | (with_reducible refine Ext.setRow ?_ ?_ _; rotate_left; focus (first | (simp; done) | (simp; omega) | omega)) | with_reducible refine Ext.trans ?_ (by with_reducible assumption)))⟩

end Go.Proofs.YtcfebfblmmbeaaaDoor

/- History, plainly: names, forks, the set, what is undone. No program in sight. -/
namespace Go.Proofs.YtcfebfblmmbeaaaDoor
open Go Go.RowKit

structure Nm where
  site : Int
  seq : Int
  deriving DecidableEq
def nmE (x : Ed) : Nm := ⟨x.st.site, x.st.seq⟩
theorem nmE_iff (x y : Ed) : nmE x = nmE y ↔ x.st.site = y.st.site ∧ x.st.seq = y.st.seq := by unfold nmE; rw [Nm.mk.injEq]
/-- A name is forked in a list. -/
def Forked (l : List Ed) (n : Nm) : Prop := ∃ x y, (x ∈ l ∧ formedE x = true ∧ nmE x = n) ∧ (y ∈ l ∧ formedE y = true ∧ nmE y = n) ∧ x ≠ y
/-- An edit is in the set of a list. -/
def SetP (l : List Ed) (x : Ed) : Prop := x ∈ l ∧ formedE x = true ∧ ¬ Forked l (nmE x)
theorem Forked.cong {l m : List Ed} (h : ∀ x, x ∈ l ↔ x ∈ m) (n : Nm) : Forked l n ↔ Forked m n := by unfold Forked; simp only [h]
theorem Forked.mono {l m : List Ed} (h : ∀ x, x ∈ l → x ∈ m) {n : Nm} : Forked l n → Forked m n := fun ⟨x, y, a, b, c⟩ => ⟨x, y, ⟨h x a.1, a.2⟩, ⟨h y b.1, b.2⟩, c⟩
theorem SetP.cong {l m : List Ed} (h : ∀ x, x ∈ l ↔ x ∈ m) : SetP l = SetP m := by
  funext x
  unfold SetP
  rw [h, propext (Forked.cong h _)]
theorem SetP.name {l : List Ed} {x y : Ed} (hx : SetP l x) (hy : SetP l y) (h : nmE x = nmE y) : x = y := by
  by_cases hq : x = y
  · exact hq
  · exact absurd ⟨x, y, ⟨hx.1, hx.2.1, rfl⟩, ⟨hy.1, hy.2.1, h.symm⟩, hq⟩ hx.2.2
theorem formed_st {x : Ed} (h : formedE x = true) : (0 ≤ x.st.tick ∧ x.st.tick ≤ 4000) ∧ (1 ≤ x.st.clock ∧ x.st.clock ≤ 1000000) ∧ (1 ≤ x.st.site ∧ x.st.site ≤ 8) ∧ (1 ≤ x.st.seq ∧ x.st.seq ≤ 1000) := by
  unfold formedE at h
  rw [Bool.and_eq_true] at h
  exact (validS_iff _).1 h.1
theorem formed_kind {x : Ed} (h : formedE x = true) : 1 ≤ x.kind ∧ x.kind ≤ 8 := by
  unfold formedE at h
  simp only [Bool.and_eq_true, decide_eq_true_eq] at h
  exact h.2.1
/-- u aims at x, as an undo of its site. -/
def Aims (u x : Ed) : Prop := u.kind = 6 ∧ u.st.site = x.st.site ∧ x.st.seq < u.st.seq ∧ u.size = x.st.seq
instance (u x : Ed) : Decidable (Aims u x) := by unfold Aims; infer_instance
/-- An edit is undone in a set. -/
def Und (M : Ed → Prop) (x : Ed) : Prop := ∃ u, ∃ _h : M u ∧ Aims u x ∧ u.st.seq ≤ 1000, ¬ Und M u
termination_by (1000 - x.st.seq).toNat
decreasing_by
  have h1 := _h.2.1.2.2.1
  have _h2 := _h.2.2
  omega
theorem Und_iff (M : Ed → Prop) (x : Ed) : Und M x ↔ ∃ u, (M u ∧ Aims u x ∧ u.st.seq ≤ 1000) ∧ ¬ Und M u := by
  rw [Und]
  constructor
  · rintro ⟨u, h1, h2⟩; exact ⟨u, h1, h2⟩
  · rintro ⟨u, h1, h2⟩; exact ⟨u, h1, h2⟩
/-- u is an effective undo of x. -/
def Eff (M : Ed → Prop) (x u : Ed) : Prop := (M u ∧ Aims u x ∧ u.st.seq ≤ 1000) ∧ ¬ Und M u
theorem Und_eff {M : Ed → Prop} {x : Ed} : Und M x ↔ ∃ u, Eff M x u := Und_iff M x
/-- v is the number of the greatest effective undo of x; or 0. -/
def ByIs (M : Ed → Prop) (x : Ed) (v : Int) : Prop := (v = 0 ∧ ¬ Und M x) ∨ (∃ u, Eff M x u ∧ u.st.seq = v ∧ ∀ u', Eff M x u' → u'.st.seq ≤ v)
theorem ByIs.uniq {M : Ed → Prop} {x : Ed} {v v' : Int} (h : ByIs M x v) (k : ByIs M x v') : v = v' := by
  rcases h with ⟨rfl, h⟩ | ⟨u, h1, h2, h3⟩ <;> rcases k with ⟨rfl, k⟩ | ⟨u', k1, k2, k3⟩
  · rfl
  · exact absurd (Und_eff.2 ⟨u', k1⟩) h
  · exact absurd (Und_eff.2 ⟨u, h1⟩) k
  · have := h3 u' k1; have := k3 u h1; omega
theorem ByIs.zero {M : Ed → Prop} {x : Ed} {v : Int} (hM : ∀ u, M u → 1 ≤ u.st.seq) (h : ByIs M x v) : v = 0 ↔ ¬ Und M x := by
  rcases h with ⟨rfl, h⟩ | ⟨u, h1, h2, h3⟩
  · exact ⟨fun _ => h, fun _ => rfl⟩
  · have := hM u h1.1.1
    exact ⟨fun h0 => by omega, fun h0 => absurd (Und_eff.2 ⟨u, h1⟩) h0⟩
theorem ByIs.pos {M : Ed → Prop} {x : Ed} {v : Int} (hM : ∀ u, M u → 1 ≤ u.st.seq) (h : ByIs M x v) : 0 ≤ v := by
  rcases h with ⟨rfl, h⟩ | ⟨u, h1, h2, h3⟩
  · exact Int.le_refl _
  · have := hM u h1.1.1; omega
theorem ByIs.le {M : Ed → Prop} {x : Ed} {v : Int} (h : ByIs M x v) : v ≤ 1000 := by
  rcases h with ⟨rfl, h⟩ | ⟨u, h1, h2, h3⟩
  · omega
  · have := h1.1.2.2; omega
/-- Two sets that agree on a site agree on what is undone there. -/
theorem Und_site {M M' : Ed → Prop} {s : Int} (h : ∀ u, u.st.site = s → (M u ↔ M' u)) : ∀ (n : Nat) (x : Ed), (1000 - x.st.seq).toNat ≤ n → x.st.site = s → (Und M x ↔ Und M' x) := by
  intro n
  induction n with
  | zero =>
    intro x hn hs
    rw [Und_iff, Und_iff]
    constructor <;> (rintro ⟨u, ⟨_, ha, hb⟩, _⟩; have := ha.2.2.1; omega)
  | succ n ih =>
    intro x hn hs
    rw [Und_iff, Und_iff]
    constructor
    · rintro ⟨u, ⟨h1, ha, hb⟩, h2⟩
      have hus : u.st.site = s := ha.2.1.trans hs
      have hlt := ha.2.2.1
      exact ⟨u, ⟨(h u hus).1 h1, ha, hb⟩, fun k => h2 ((ih u (by omega) hus).2 k)⟩
    · rintro ⟨u, ⟨h1, ha, hb⟩, h2⟩
      have hus : u.st.site = s := ha.2.1.trans hs
      have hlt := ha.2.2.1
      exact ⟨u, ⟨(h u hus).2 h1, ha, hb⟩, fun k => h2 ((ih u (by omega) hus).1 k)⟩
/-- An edit is effective. -/
def ActP (l : List Ed) (x : Ed) : Prop := SetP l x ∧ ¬ Und (SetP l) x
theorem ActP.cong {l m : List Ed} (h : ∀ x, x ∈ l ↔ x ∈ m) : ActP l = ActP m := by unfold ActP; rw [SetP.cong h]

/-! One more edit: other sites. -/
theorem Forked.own {l : List Ed} {x : Ed} {n : Nm} (hn : n.site ≠ x.st.site) : Forked (l ++ [x]) n ↔ Forked l n := by
  constructor
  · rintro ⟨a, b, ⟨a1, a2, a3⟩, ⟨b1, b2, b3⟩, hab⟩
    have key : ∀ y, y ∈ l ++ [x] → nmE y = n → y ∈ l := fun y hy he => by
      rcases List.mem_append.1 hy with h | h
      · exact h
      · rw [List.mem_singleton] at h
        subst h
        exact absurd (by rw [← he]; rfl) hn
    exact ⟨a, b, ⟨key a a1 a3, a2, a3⟩, ⟨key b b1 b3, b2, b3⟩, hab⟩
  · exact Forked.mono fun y hy => List.mem_append_left _ hy
theorem SetP.own {l : List Ed} {x y : Ed} (hn : y.st.site ≠ x.st.site) : SetP (l ++ [x]) y ↔ SetP l y := by
  unfold SetP
  rw [Forked.own (n := nmE y) hn, List.mem_append, List.mem_singleton]
  constructor
  · rintro ⟨h1 | rfl, h2⟩
    · exact ⟨h1, h2⟩
    · exact absurd rfl hn
  · rintro ⟨h1, h2⟩; exact ⟨.inl h1, h2⟩
theorem ActP.own {l : List Ed} {x y : Ed} (hn : y.st.site ≠ x.st.site) : ActP (l ++ [x]) y ↔ ActP l y := by
  unfold ActP
  rw [SetP.own hn, Und_site (M := SetP (l ++ [x])) (M' := SetP l) (s := y.st.site) (fun u hu => SetP.own (by rw [hu]; exact hn)) _ y (Nat.le_refl _) rfl]

/-! An undo with a new number; and the undo of the undo. -/
/-- u's name is new in l: the set grows by u. -/
theorem SetP.fresh {l : List Ed} {u : Ed} (hf : formedE u = true) (hnew : ∀ y, y ∈ l → nmE y ≠ nmE u) (y : Ed) : SetP (l ++ [u]) y ↔ SetP l y ∨ y = u := by
  have hl : ∀ n, n ≠ nmE u → (Forked (l ++ [u]) n ↔ Forked l n) := fun n hn => by
    constructor
    · rintro ⟨a, b, ⟨a1, a2, a3⟩, ⟨b1, b2, b3⟩, hab⟩
      have key : ∀ y, y ∈ l ++ [u] → nmE y = n → y ∈ l := fun y hy he => by
        rcases List.mem_append.1 hy with h | h
        · exact h
        · rw [List.mem_singleton] at h
          subst h
          exact absurd he.symm hn
      exact ⟨a, b, ⟨key a a1 a3, a2, a3⟩, ⟨key b b1 b3, b2, b3⟩, hab⟩
    · exact Forked.mono fun y hy => List.mem_append_left _ hy
  have hu : ¬ Forked (l ++ [u]) (nmE u) := by
    rintro ⟨a, b, ⟨a1, a2, a3⟩, ⟨b1, b2, b3⟩, hab⟩
    have key : ∀ y, y ∈ l ++ [u] → nmE y = nmE u → y = u := fun y hy he => by
      rcases List.mem_append.1 hy with h | h
      · exact absurd he (hnew y h)
      · exact List.mem_singleton.1 h
    exact hab ((key a a1 a3).trans (key b b1 b3).symm)
  unfold SetP
  constructor
  · rintro ⟨h1, h2, h3⟩
    rcases List.mem_append.1 h1 with h | h
    · exact .inl ⟨h, h2, fun k => h3 ((hl _ (hnew y h)).2 k)⟩
    · exact .inr (List.mem_singleton.1 h)
  · rintro (⟨h1, h2, h3⟩ | rfl)
    · exact ⟨List.mem_append_left _ h1, h2, fun k => h3 ((hl _ (hnew y h1)).1 k)⟩
    · exact ⟨by simp, hf, hu⟩
/-- The undo of x with a new, greatest number. -/
structure NewUndo (l : List Ed) (x u : Ed) : Prop where
  frm : formedE u = true
  kind : u.kind = 6
  site : u.st.site = x.st.site
  size : u.size = x.st.seq
  top : ∀ y, y ∈ l → y.st.site = x.st.site → y.st.seq < u.st.seq
  act : ActP l x
section
variable {l : List Ed} {x u : Ed}
theorem NewUndo.new (h : NewUndo l x u) : ∀ y, y ∈ l → nmE y ≠ nmE u := fun y hy he => by
  rw [nmE_iff] at he
  have := h.top y hy (he.1.trans h.site)
  omega
theorem NewUndo.set (h : NewUndo l x u) (y : Ed) : SetP (l ++ [u]) y ↔ SetP l y ∨ y = u := SetP.fresh h.frm h.new y
theorem NewUndo.aims (h : NewUndo l x u) : Aims u x := ⟨h.kind, h.site, h.top x h.act.1.1 rfl, h.size⟩
/-- Nobody aims at u in the longer list. -/
theorem NewUndo.free (h : NewUndo l x u) : ¬ Und (SetP (l ++ [u])) u := by
  rw [Und_iff]
  rintro ⟨w, ⟨h1, h2, h3⟩, _⟩
  rcases (h.set w).1 h1 with h4 | rfl
  · have := h.top w h4.1 (h2.2.1.trans h.site)
    have := h2.2.2.1
    omega
  · have := h2.2.2.1; omega
theorem NewUndo.eff (h : NewUndo l x u) : Eff (SetP (l ++ [u])) x u := ⟨⟨(h.set u).2 (.inr rfl), h.aims, (formed_st h.frm).2.2.2.2⟩, h.free⟩
/-- x is undone. -/
theorem NewUndo.undone (h : NewUndo l x u) : Und (SetP (l ++ [u])) x := Und_eff.2 ⟨u, h.eff⟩
theorem NewUndo.by_ (h : NewUndo l x u) : ByIs (SetP (l ++ [u])) x u.st.seq := .inr ⟨u, h.eff, rfl, fun w hw => by
  rcases (h.set w).1 hw.1.1 with h4 | rfl
  · exact Int.le_of_lt (h.top w h4.1 hw.1.2.1.2.1)
  · exact Int.le_refl _⟩
/-- If x is no undo, nothing else of the set changes. -/
theorem NewUndo.others (h : NewUndo l x u) (hk : x.kind ≠ 6) : ∀ (n : Nat) (y : Ed), (1000 - y.st.seq).toNat ≤ n → SetP l y → y ≠ x → (Und (SetP (l ++ [u])) y ↔ Und (SetP l) y) := by
  have hne : ∀ y, SetP l y → y ≠ x → ¬ Aims u y := fun y hy hne ha => by
    refine hne (hy.name h.act.1 ?_)
    rw [nmE_iff]
    exact ⟨ha.2.1.symm.trans h.site, ha.2.2.2.symm.trans h.size⟩
  intro n
  induction n with
  | zero =>
    intro y hn hy hyx
    rw [Und_iff, Und_iff]
    constructor <;> (rintro ⟨w, ⟨_, ha, hb⟩, _⟩; have := ha.2.2.1; omega)
  | succ n ih =>
    intro y hn hy hyx
    rw [Und_iff, Und_iff]
    constructor
    · rintro ⟨w, ⟨h1, ha, hb⟩, h2⟩
      have hlt := ha.2.2.1
      rcases (h.set w).1 h1 with h4 | rfl
      · exact ⟨w, ⟨h4, ha, hb⟩, fun k => h2 ((ih w (by omega) h4 (fun e => hk (e ▸ ha.1))).2 k)⟩
      · exact absurd ha (hne y hy hyx)
    · rintro ⟨w, ⟨h1, ha, hb⟩, h2⟩
      have hlt := ha.2.2.1
      exact ⟨w, ⟨(h.set w).2 (.inl h1), ha, hb⟩, fun k => h2 ((ih w (by omega) h1 (fun e => hk (e ▸ ha.1))).1 k)⟩
theorem NewUndo.actOther (h : NewUndo l x u) (hk : x.kind ≠ 6) {y : Ed} (hy : ActP l y) (hyx : y ≠ x) : ActP (l ++ [u]) y :=
  ⟨(h.set y).2 (.inl hy.1), fun k => hy.2 ((h.others hk _ y (Nat.le_refl _) hy.1 hyx).1 k)⟩
/-- The undo of the undo. -/
theorem NewUndo.back (h : NewUndo l x u) {v : Ed} (hf : formedE v = true) (hk : v.kind = 6) (hs : v.st.site = x.st.site) (hz : v.size = u.st.seq) (hq : v.st.seq = u.st.seq + 1) (y : Ed) : ActP ((l ++ [u]) ++ [v]) y ↔ ActP l y ∨ y = v := by
  have hnew : ∀ y, y ∈ l ++ [u] → nmE y ≠ nmE v := fun y hy he => by
    rw [nmE_iff] at he
    rcases List.mem_append.1 hy with h1 | h1
    · have := h.top y h1 (he.1.trans hs); omega
    · rw [List.mem_singleton] at h1; subst h1; omega
  have hset : ∀ y, SetP ((l ++ [u]) ++ [v]) y ↔ (SetP l y ∨ y = u) ∨ y = v := fun y => (SetP.fresh hf hnew y).trans (or_congr (h.set y) Iff.rfl)
  have hv : ¬ Und (SetP ((l ++ [u]) ++ [v])) v := by
    rw [Und_iff]
    rintro ⟨w, ⟨h1, h2, h3⟩, _⟩
    have hlt := h2.2.2.1
    rcases (hset w).1 h1 with (h4 | rfl) | rfl
    · have := h.top w h4.1 (h2.2.1.trans hs); omega
    · omega
    · omega
  have hu : Und (SetP ((l ++ [u]) ++ [v])) u := Und_eff.2 ⟨v, ⟨⟨(hset v).2 (.inr rfl), ⟨hk, hs.trans h.site.symm, by omega, hz⟩, (formed_st hf).2.2.2.2⟩, hv⟩⟩
  have key : ∀ (n : Nat) (y : Ed), (1000 - y.st.seq).toNat ≤ n → SetP l y → (Und (SetP ((l ++ [u]) ++ [v])) y ↔ Und (SetP l) y) := by
    intro n
    induction n with
    | zero =>
      intro y hn hy
      rw [Und_iff, Und_iff]
      constructor <;> (rintro ⟨w, ⟨_, ha, hb⟩, _⟩; have := ha.2.2.1; omega)
    | succ n ih =>
      intro y hn hy
      rw [Und_iff, Und_iff]
      constructor
      · rintro ⟨w, ⟨h1, ha, hb⟩, h2⟩
        have hlt := ha.2.2.1
        rcases (hset w).1 h1 with (h4 | rfl) | rfl
        · exact ⟨w, ⟨h4, ha, hb⟩, fun k => h2 ((ih w (by omega) h4).2 k)⟩
        · exact absurd hu h2
        · have := h.top y hy.1 (ha.2.1.symm.trans hs)
          have := ha.2.2.2
          omega
      · rintro ⟨w, ⟨h1, ha, hb⟩, h2⟩
        have hlt := ha.2.2.1
        exact ⟨w, ⟨(hset w).2 (.inl (.inl h1)), ha, hb⟩, fun k => h2 ((ih w (by omega) h1).1 k)⟩
  constructor
  · rintro ⟨h1, h2⟩
    rcases (hset y).1 h1 with (h4 | rfl) | rfl
    · exact .inl ⟨h4, fun k => h2 ((key _ y (Nat.le_refl _) h4).2 k)⟩
    · exact absurd hu h2
    · exact .inr rfl
  · rintro (h1 | rfl)
    · exact ⟨(hset y).2 (.inl (.inl h1.1)), fun k => h1.2 ((key _ y (Nat.le_refl _) h1.1).1 k)⟩
    · exact ⟨(hset y).2 (.inr rfl), hv⟩
end
end Go.Proofs.YtcfebfblmmbeaaaDoor

/- History, plainly: the order of edits and of names; lists in order. -/
namespace Go.Proofs.YtcfebfblmmbeaaaDoor
open Go Go.RowKit

/-- Lists of numbers, the first difference decides. -/
def ltL : List Int → List Int → Bool
  | a :: r1, b :: r2 => decide (a < b) || (decide (a = b) && ltL r1 r2)
  | _, _ => false
theorem ltL_irr : ∀ a : List Int, ltL a a = false
  | [] => rfl
  | a :: r1 => by simp [ltL, ltL_irr r1]
theorem ltL_trans : ∀ {a b c : List Int}, ltL a b = true → ltL b c = true → ltL a c = true
  | a :: r1, b :: r2, c :: r3, h, k => by
    simp only [ltL, Bool.or_eq_true, decide_eq_true_eq, Bool.and_eq_true] at h k ⊢
    rcases h with h | ⟨h, h2⟩ <;> rcases k with k | ⟨k, k2⟩
    · exact .inl (by omega)
    · exact .inl (by omega)
    · exact .inl (by omega)
    · exact .inr ⟨by omega, ltL_trans h2 k2⟩
  | [], _, _, h, _ => by simp [ltL] at h
  | _ :: _, [], _, h, _ => by simp [ltL] at h
  | _ :: _, _ :: _, [], _, k => by simp [ltL] at k
theorem ltL_total : ∀ {a b : List Int}, a.length = b.length → ltL a b = false → ltL b a = false → a = b
  | [], [], _, _, _ => rfl
  | a :: r1, b :: r2, hl, h, k => by
    simp only [ltL, Bool.or_eq_false_iff, decide_eq_false_iff_not, Bool.and_eq_false_iff] at h k
    have hab : a = b := by omega
    subst hab
    rw [ltL_total (by simpa using hl) (h.2.resolve_left (by simp)) (k.2.resolve_left (by simp))]
  | [], _ :: _, hl, _, _ => by simp at hl
  | _ :: _, [], hl, _, _ => by simp at hl
/-- A strict total order. -/
structure Ord {α : Type} (r : α → α → Bool) : Prop where
  irr : ∀ a, r a a = false
  tr : ∀ {a b c}, r a b = true → r b c = true → r a c = true
  tot : ∀ {a b}, r a b = false → r b a = false → a = b
def Srt {α : Type} (r : α → α → Bool) (l : List α) : Prop := l.Pairwise fun a b => r a b = true
section
variable {α : Type} {r : α → α → Bool}
theorem Ord.asym (o : Ord r) {a b : α} (h : r a b = true) : r b a = false := by
  cases k : r b a
  · rfl
  · have := o.tr h k; rw [o.irr] at this; cases this
theorem Srt.nodup (o : Ord r) {l : List α} (h : Srt r l) : l.Nodup := h.imp fun {a b} h e => by subst e; rw [o.irr] at h; cases h
theorem Srt.eq (o : Ord r) {a b : List α} (ha : Srt r a) (hb : Srt r b) (h : ∀ q, q ∈ a ↔ q ∈ b) : a = b := by
  induction a generalizing b with
  | nil =>
    cases b with
    | nil => rfl
    | cons y ys => exact absurd ((h y).2 (List.mem_cons_self ..)) (by simp)
  | cons x xs ih =>
    cases b with
    | nil => exact absurd ((h x).1 (List.mem_cons_self ..)) (by simp)
    | cons y ys =>
      unfold Srt at ha hb
      rw [List.pairwise_cons] at ha hb
      have hxy : x = y := by
        have h1 := (h x).1 (List.mem_cons_self ..)
        have h2 := (h y).2 (List.mem_cons_self ..)
        rcases List.mem_cons.1 h1 with e | h1
        · exact e
        · rcases List.mem_cons.1 h2 with e | h2
          · exact e.symm
          · have a1 := ha.1 y h2
            have a2 := hb.1 x h1
            rw [o.asym a1] at a2; cases a2
      subst hxy
      have hx1 : x ∉ xs := fun hm => by have := ha.1 x hm; rw [o.irr] at this; cases this
      have hx2 : x ∉ ys := fun hm => by have := hb.1 x hm; rw [o.irr] at this; cases this
      rw [ih ha.2 hb.2 fun q => ?_]
      have hq := h q
      simp only [List.mem_cons] at hq
      constructor
      · intro hm
        rcases hq.1 (.inr hm) with rfl | h3
        · exact absurd hm hx1
        · exact h3
      · intro hm
        rcases hq.2 (.inr hm) with rfl | h3
        · exact absurd hm hx2
        · exact h3
theorem Srt.snoc {l : List α} {p : α} (h : Srt r l) (hp : ∀ q, q ∈ l → r q p = true) : Srt r (l ++ [p]) := by
  unfold Srt
  rw [List.pairwise_append]
  exact ⟨h, List.pairwise_singleton .., fun a ha b hb => by simp at hb; subst hb; exact hp a ha⟩
theorem Srt.filter {l : List α} (h : Srt r l) (p : α → Bool) : Srt r (l.filter p) := List.Pairwise.filter p h
end
def numsE (x : Ed) : List Int := [x.st.tick, x.st.clock, x.st.site, x.st.seq, x.kind, x.box.lo.x, x.box.lo.y, x.box.lo.z, x.box.hi.x, x.box.hi.y, x.box.hi.z, x.at_.x, x.at_.y, x.at_.z, x.turn, x.cell, x.size]
theorem numsE_inj {x y : Ed} (h : numsE x = numsE y) : x = y := by
  obtain ⟨⟨a1, a2, a3, a4⟩, a5, ⟨⟨a6, a7, a8⟩, ⟨a9, a10, a11⟩⟩, ⟨a12, a13, a14⟩, a15, a16, a17⟩ := x
  obtain ⟨⟨b1, b2, b3, b4⟩, b5, ⟨⟨b6, b7, b8⟩, ⟨b9, b10, b11⟩⟩, ⟨b12, b13, b14⟩, b15, b16, b17⟩ := y
  simp only [numsE, List.cons.injEq, and_true] at h
  obtain ⟨rfl, rfl, rfl, rfl, rfl, rfl, rfl, rfl, rfl, rfl, rfl, rfl, rfl, rfl, rfl, rfl, rfl⟩ := h
  rfl
/-- x comes before y. -/
def befE (x y : Ed) : Bool := ltL (numsE x) (numsE y)
theorem ordE : Ord befE := ⟨fun _ => ltL_irr _, fun h k => ltL_trans h k, fun h k => numsE_inj (ltL_total rfl h k)⟩
def befN (a b : Nm) : Bool := ltL [a.site, a.seq] [b.site, b.seq]
theorem ordN : Ord befN := ⟨fun _ => ltL_irr _, fun h k => ltL_trans h k, fun {a b} h k => by
  have := ltL_total (a := [a.site, a.seq]) (b := [b.site, b.seq]) rfl h k
  obtain ⟨a1, a2⟩ := a
  obtain ⟨b1, b2⟩ := b
  simp only [List.cons.injEq, and_true] at this
  obtain ⟨rfl, rfl⟩ := this
  rfl⟩
theorem befN_iff (a b : Nm) : befN a b = true ↔ a.site < b.site ∨ (a.site = b.site ∧ a.seq < b.seq) := by
  simp [befN, ltL]
/-- The set of a list, in order; its forks; its effective edits. -/
structure IsSet (l s : List Ed) : Prop where
  srt : Srt befE s
  mem : ∀ x, x ∈ s ↔ SetP l x
structure IsForks (l : List Ed) (f : List Nm) : Prop where
  srt : Srt befN f
  mem : ∀ n, n ∈ f ↔ Forked l n
structure IsAct (l a : List Ed) : Prop where
  srt : Srt befE a
  mem : ∀ x, x ∈ a ↔ ActP l x
theorem IsSet.uniq {l s s' : List Ed} (h : IsSet l s) (k : IsSet l s') : s = s' := h.srt.eq ordE k.srt fun x => (h.mem x).trans (k.mem x).symm
theorem IsForks.uniq {l : List Ed} {s s' : List Nm} (h : IsForks l s) (k : IsForks l s') : s = s' := h.srt.eq ordN k.srt fun x => (h.mem x).trans (k.mem x).symm
theorem IsAct.uniq {l s s' : List Ed} (h : IsAct l s) (k : IsAct l s') : s = s' := h.srt.eq ordE k.srt fun x => (h.mem x).trans (k.mem x).symm
/-- The same elements: the same set, forks and effective edits. -/
theorem IsSet.same {l m s s' : List Ed} (hlm : ∀ x, x ∈ l ↔ x ∈ m) (h : IsSet l s) (k : IsSet m s') : s = s' := h.uniq ⟨k.srt, fun x => by rw [k.mem, SetP.cong hlm]⟩
theorem IsForks.same {l m : List Ed} {s s' : List Nm} (hlm : ∀ x, x ∈ l ↔ x ∈ m) (h : IsForks l s) (k : IsForks m s') : s = s' := h.uniq ⟨k.srt, fun x => by rw [k.mem]; exact (Forked.cong hlm x).symm⟩
theorem IsAct.same {l m s s' : List Ed} (hlm : ∀ x, x ∈ l ↔ x ∈ m) (h : IsAct l s) (k : IsAct m s') : s = s' := h.uniq ⟨k.srt, fun x => by rw [k.mem, ActP.cong hlm]⟩
end Go.Proofs.YtcfebfblmmbeaaaDoor

/- An owned row that takes an append: afterwards it lies in the block where it lay, or in a new one. And a slice beside it stays. -/
namespace Go.Proofs.YtcfebfblmmbeaaaDoor
open Go Go.RowKit

section
variable {P : Program} (w : World)
theorem run_append_mine (base : Nat) (t ty e : TypeId) (i : TypeInfo) (z : Value) (size bytes : Nat) (ht : P.underlying t = some (.slice e)) (hi : P.info? e = some i) (hz : i.zero = some z)
    (hsize : i.size = size) (hby : i.bytes = bytes) (hzs : z.cells.size = size) (hsz : 0 < size)
    (v : Value) (n : Nat) (xs : List Value) (hown : w.ownsRow base e size v n xs)
    (a : Addr) (m c : Nat) (news : List Value) (hl : news.length = m * size) (hnews : ∀ j u, news[j]? = some u → w.cell? (a.add j) = some u) (h1 : ∀ u ∈ news, u.oneCell' = true)
    (h63 : n + m ≤ maxLen) (hbytes : (n + m) * bytes ≤ 140737488355328) (hbase : base ≤ w.heap.size) :
    ∃ v' w', (Builtin.append_ #[t, t] ty #[v, .slice (some a) m c]).run P w = .ok v' w' ∧ w'.ownsRow base e size v' (n + m) (xs ++ news) ∧ w.grownBy w' v.ownBlock ∧
      (v'.ownBlock = v.ownBlock ∨ ∀ b, v'.ownBlock = some b → w.heap.size ≤ b) := by
  obtain ⟨v', w', hr, ho, hg, _⟩ := run_append_own (P := P) w base t ty e i z size bytes ht hi hz hsize hby hzs hsz v n xs hown a m c news hl hnews h1 h63 hbytes hbase
  refine ⟨v', w', hr, ho, hg, ?_⟩
  rcases hown.2 with ⟨rfl, rfl⟩ | ⟨g, cap, cur, rfl, hbg, hgc, hnc, hcm, hcs, htake⟩
  · have hx : xs = [] := List.eq_nil_of_length_eq_zero (by simpa using hown.1)
    subst hx
    obtain ⟨v2, w2, hr2, ho2, _, _⟩ := run_append_own (P := P) w w.heap.size t ty e i z size bytes ht hi hz hsize hby hzs hsz (.slice none 0 0) 0 [] (World.ownsRow_nil _ _ _ _) a m c news hl hnews h1 h63 hbytes (Nat.le_refl _)
    rw [hr] at hr2
    injection hr2 with e1 e2
    subst e1 e2
    refine .inr fun b hb => ?_
    rcases ho2.2 with ⟨rfl, _⟩ | ⟨g, cap, cur, rfl, hbg, _⟩
    · simp [Value.ownBlock] at hb
    · simp only [Value.ownBlock, Option.some.injEq] at hb
      omega
  · by_cases hroom : n + m ≤ cap
    · obtain ⟨w2, hr2, _, _⟩ := run_append_own_spare (P := P) w base t ty e i size ht hi hsize g n cap xs hown a m c news hl hnews h1 hroom
      rw [hr] at hr2
      injection hr2 with e1 e2
      subst e1
      exact .inl rfl
    · have holds : ∀ j u, xs[j]? = some u → w.cell? ((⟨g, 0, none⟩ : Addr).add j) = some u := hown.cells (g := g) rfl
      have hr2 := run_append_grow (P := P) (w := w) t ty e i z ht hi hz ⟨g, 0, none⟩ n cap xs (by rw [hsize]; exact hown.1) holds a m c news (by rw [hsize]; exact hl) hnews (by omega) (by simp only [maxLen] at h63; omega) (growslice_fits (by omega) (by rw [hby]; exact hbytes))
      rw [hr] at hr2
      injection hr2 with e1 e2
      subst e1
      refine .inr fun b hb => ?_
      simp only [Value.ownBlock, Option.some.injEq] at hb
      omega
theorem wpList_append_mine {ops : Array Oper} {rest : List Oper} {o : Oper} {a : Act} {Q : Exit → Act → World → Prop} (hgd : o.guard = none) (s x : Operand) (t : TypeId)
    (ho : o.op = .call { callee := .builtin .append, args := #[s, x], argTypes := #[t, t] })
    (base : Nat) (e : TypeId) (i : TypeInfo) (z : Value) (size bytes : Nat) (ht : P.underlying t = some (.slice e)) (hi : P.info? e = some i) (hz : i.zero = some z)
    (hsize : i.size = size) (hby : i.bytes = bytes) (hzs : z.cells.size = size) (hsz : 0 < size)
    (v : Value) (n : Nat) (xs : List Value) (hs : a.eval s = v) (hown : w.ownsRow base e size v n xs)
    (ad : Addr) (m c : Nat) (news : List Value) (hx : a.eval x = .slice (some ad) m c) (hl : news.length = m * size) (hnews : ∀ j u, news[j]? = some u → w.cell? (ad.add j) = some u) (h1 : ∀ u ∈ news, u.oneCell' = true)
    (h63 : n + m ≤ maxLen) (hbytes : (n + m) * bytes ≤ 140737488355328) (hbase : base ≤ w.heap.size)
    (h : ∀ v' w', w'.ownsRow base e size v' (n + m) (xs ++ news) → w.grownBy w' v.ownBlock → (v'.ownBlock = v.ownBlock ∨ ∀ b, v'.ownBlock = some b → w.heap.size ≤ b) → wpList P ops Q rest (a.put o.dst v') w') : wpList P ops Q (o :: rest) a w := by
  refine wpList_plain hgd fun K hK' => ?_
  obtain ⟨v', w', hrun, r1, r2, r3⟩ := run_append_mine (P := P) w base t o.type e i z size bytes ht hi hz hsize hby hzs hsz v n xs hown ad m c news hl hnews h1 h63 hbytes hbase
  unfold Oper.wp
  simp [execOp, ho, resolve, invoke, builtin, hs, hx, hrun, Result.andThen]
  exact hK' _ _ (h v' w' r1 r2 r3)
end

section
variable {w w' : World} {B k c : Nat} {A : Option Addr} {xs : List (List Value)}
/-- The slice's block is not the row's. -/
def Apart (xs : List (List Value)) (A : Option Addr) (v : Value) : Prop := 0 < xs.length → ∀ a : Addr, A = some a → v.ownBlock ≠ some a.block
theorem Sl.grown (h : Sl w w.heap.size k A c xs) {v : Value} (hg : w.grownBy w' v.ownBlock) (ha : Apart xs A v) : Sl w' w'.heap.size k A c xs :=
  ⟨h.le, h.max, h.rows, fun hn => by
    obtain ⟨b, off, e, hb, hc⟩ := h.mem hn
    refine ⟨b, off, e, Nat.lt_of_lt_of_le hb hg.size, fun j u hu => ?_⟩
    have h1 := hc j u hu
    have h2 := hg.block b hb (fun hh => ha hn _ e hh.symm)
    unfold World.cell? at h1 ⊢
    simp only at h1 ⊢
    rw [h2]
    exact h1⟩
theorem Apart.fresh {w : World} {base k n : Nat} {e : TypeId} {v : Value} {zs : List Value} (ho : w.ownsRow base e k v n zs) (hA : ∀ a : Addr, A = some a → w.heap.size ≤ a.block) : Apart xs A v := fun _ a ha hb => by
  have h1 := hA a ha
  rcases ho.2 with ⟨rfl, _⟩ | ⟨g, cap, cur, rfl, _, hg, _⟩
  · simp [Value.ownBlock] at hb
  · simp only [Value.ownBlock, Option.some.injEq] at hb
    have := (Array.getElem?_eq_some_iff.1 hg).1
    omega
theorem Apart.grown {w : World} {k c : Nat} {v v' : Value} (h : Apart xs A v) (hs : Sl w w.heap.size k A c xs) (hv : v'.ownBlock = v.ownBlock ∨ ∀ b, v'.ownBlock = some b → w.heap.size ≤ b) : Apart xs A v' := fun hn a ha hb => by
  rcases hv with hv | hv
  · exact h hn a ha (by rw [← hv]; exact hb)
  · have h1 := hv _ hb
    obtain ⟨b, off, e, hb2, _⟩ := hs.mem hn
    rw [ha] at e
    injection e with e
    subst e
    simp only at h1
    omega
theorem Apart.nil (v : Value) : Apart xs none v := fun _ _ h => by cases h
end
end Go.Proofs.YtcfebfblmmbeaaaDoor

/- A part of a block of one's own, loaded at once. -/
namespace Go.Proofs.YtcfebfblmmbeaaaDoor
open Go Go.RowKit

theorem wpList_load_part {P : Program} {ops : Array Oper} {rest : List Oper} {o : Oper} {a : Act} {w : World} {Q : Exit → Act → World → Prop} (ty : TypeId) (x : Operand) (ho : o.op = .load ty x) (hw : Region.wanted o (yielded ops a.tmps) = true)
    {b : Nat} {t : TypeId} {vs : List Value} (hB : Arr w b t vs) (off : Nat) (cs : List Value) (hcs : (vs.drop off).take cs.length = cs) (hx : a.eval x = .pointer (some ⟨b, off, none⟩)) (d : TypeDesc) (hu : P.underlying ty = some d)
    (hd : d.isRow = true) (hi : (P.info? ty).map (·.size) = some cs.length) (h : wpList P ops Q rest (a.put o.dst (.agg cs.toArray)) w) : wpList P ops Q (o :: rest) a w := by
  refine wpList_step fun K hK => ?_
  rw [if_pos hw]
  refine wp_load_mid ty x ho b off hx cs d (fun j v hv => ?_) hu hd hi (hK _ _ h)
  rw [hB.cell, ← List.getElem?_drop]
  have h1 : ((vs.drop off).take cs.length)[j]? = some v := by rw [hcs]; exact hv
  rw [List.getElem?_take] at h1
  split at h1
  · exact h1
  · cases h1
end Go.Proofs.YtcfebfblmmbeaaaDoor

/- Slices of rows of k cells, whatever each cell holds; function values with bound arguments. -/
namespace Go.Proofs.YtcfebfblmmbeaaaDoor
open Go Go.RowKit

/-- Rows of k cells each. -/
def Rwk (k : Nat) (xs : List (List Value)) : Prop := ∀ x, x ∈ xs → x.length = k ∧ ∀ u, u ∈ x → u.oneCell' = true
theorem Rwk.len {k : Nat} {xs : List (List Value)} (h : Rwk k xs) : ∀ x, x ∈ xs → x.length = k := fun x hx => (h x hx).1
theorem Rwk.one {k : Nat} {xs : List (List Value)} (h : Rwk k xs) : ∀ u, u ∈ xs.flatten → u.oneCell' = true := fun u hu => by
  obtain ⟨x, hx, hu⟩ := List.mem_flatten.1 hu
  exact (h x hx).2 u hu
theorem Rwk.sub {k : Nat} {xs ys : List (List Value)} (h : Rwk k xs) (hs : ∀ x, x ∈ ys → x ∈ xs) : Rwk k ys := fun x hx => h x (hs x hx)
theorem Rws.rwk {k : Nat} {xs : List (List Value)} (h : Rws k xs) : Rwk k xs := fun x hx => by
  obtain ⟨l, h1, rfl⟩ := h x hx
  exact ⟨by simpa using h1, fun u hu => by obtain ⟨n, _, rfl⟩ := List.mem_map.1 hu; rfl⟩

/-- The slice value with address A, length xs.length and capacity c holds rows of k cells each; its block lies below B. -/
structure Sv (w : World) (B k : Nat) (A : Option Addr) (c : Nat) (xs : List (List Value)) : Prop where
  le : xs.length ≤ c
  max : c ≤ maxLen
  rows : Rwk k xs
  mem : 0 < xs.length → ∃ b off, A = some ⟨b, off, none⟩ ∧ b < B ∧ ∀ (j : Nat) (u : Value), xs.flatten[j]? = some u → w.cell? ⟨b, off + j, none⟩ = some u

section
variable {w w' : World} {B B' k c n base : Nat} {e : TypeId} {A : Option Addr} {xs : List (List Value)}
theorem Sv.keep (h : Sv w B k A c xs) (hk : ∀ p : Addr, p.block < B → w'.cell? p = w.cell? p) : Sv w' B k A c xs :=
  ⟨h.le, h.max, h.rows, fun hn => by
    obtain ⟨b, off, e, hb, hc⟩ := h.mem hn
    exact ⟨b, off, e, hb, fun j u hu => (hk _ hb).trans (hc j u hu)⟩⟩
theorem Sv.more (h : Sv w B k A c xs) (hB : B ≤ B') : Sv w B' k A c xs :=
  ⟨h.le, h.max, h.rows, fun hn => by
    obtain ⟨b, off, e, hb, hc⟩ := h.mem hn
    exact ⟨b, off, e, by omega, hc⟩⟩
theorem Sv.ext (h : Sv w w.heap.size k A c xs) (hx : Ext w w') : Sv w' w'.heap.size k A c xs := (h.keep fun _ hp => hx.below.cell hp).more hx.size
theorem Sv.nil (w : World) (B k : Nat) : Sv w B k none 0 [] := ⟨by simp, by simp, fun _ h => by simp at h, fun h => absurd h (by simp)⟩
theorem Sv.len (h : Sv w B k A c xs) : xs.length ≤ 9223372036854775807 := by have h1 := h.le; have h2 := h.max; unfold maxLen at h2; omega
theorem Sl.sv (h : Sl w B k A c xs) : Sv w B k A c xs := ⟨h.le, h.max, h.rows.rwk, h.mem⟩
/-- Row i, as a range of cells. -/
theorem Sv.row (h : Sv w B k A c xs) {i : Nat} {x : List Value} (hx : xs[i]? = some x) : ∃ b off, A = some ⟨b, off, none⟩ ∧ b < B ∧ w.rangeAt b (off + i * k) x := by
  obtain ⟨b, off, e, hb, hc⟩ := h.mem (by have := (List.getElem?_eq_some_iff.1 hx).1; omega)
  refine ⟨b, off, e, hb, fun j v hv => ?_⟩
  rw [Nat.add_assoc]
  exact hc _ _ (flatten_at xs h.rows.len i x hx j v hv)
theorem Sv.news {a : Addr} (h : Sv w B k (some a) c xs) : ∀ j u, xs.flatten[j]? = some u → w.cell? (a.add j) = some u := fun j u hu => by
  have hpos : 0 < xs.length := by
    rcases Nat.eq_zero_or_pos xs.length with h0 | h0
    · rw [List.eq_nil_of_length_eq_zero h0] at hu; simp at hu
    · exact h0
  obtain ⟨b, off, e, _, hc⟩ := h.mem hpos
  injection e with e
  subst e
  rw [add_lit]
  exact hc j u hu
/-- An owned row, read. -/
theorem Sv.of_own (h : w.ownsRow base e k (.slice A n c) n xs.flatten) (hr : Rwk k xs) (hn : xs.length = n) : Sv w w.heap.size k A c xs := by
  subst hn
  rcases h.2 with ⟨h1, h2⟩ | ⟨g, cap, cur, hv, hg, hgg, hle, hmax, hsz, htk⟩
  · have hx : xs = [] := List.eq_nil_of_length_eq_zero h2
    subst hx
    injection h1 with _ _ hc
    subst hc
    exact ⟨by simp, by simp, hr, fun h => absurd h (by simp)⟩
  · injection hv with hA _ hc
    subst hA hc
    refine ⟨hle, hmax, hr, fun _ => ⟨g, 0, rfl, (Array.getElem?_eq_some_iff.1 hgg).1, fun j u h3 => ?_⟩⟩
    rw [Nat.zero_add, cell_of_row w g _ cur e (0, 0) hgg]
    rw [← htk, List.getElem?_take] at h3
    split at h3
    · simpa using h3
    · cases h3
end

/-- A function value that answers p of each row of xs, in whatever world near w. -/
structure PredF (P : Program) (g : FuncId) (fst cap : Array Value) (p : List Value → Bool) (xs : List (List Value)) (w : World) : Prop where
  enters : ∀ args w, (callFunc g args).run P w = .ok (.enter g args) w
  call : ∀ x, x ∈ xs → ∀ w', Ext w w' → Calls P g (fst ++ #[.agg x.toArray] ++ cap) w' fun e w'' => e = .returned (.bool (p x)) ∧ Ext w' w''
theorem PredF.ext {P : Program} {g : FuncId} {fst cap : Array Value} {p : List Value → Bool} {xs : List (List Value)} {w w' : World} (h : PredF P g fst cap p xs w) (hx : Ext w w') : PredF P g fst cap p xs w' :=
  ⟨h.enters, fun x hm w2 h2 => h.call x hm w2 (hx.trans h2)⟩
theorem PredF.sub {P : Program} {g : FuncId} {fst cap : Array Value} {p : List Value → Bool} {xs ys : List (List Value)} {w : World} (h : PredF P g fst cap p xs w) (hs : ∀ x, x ∈ ys → x ∈ xs) : PredF P g fst cap p ys w :=
  ⟨h.enters, fun x hm w2 h2 => h.call x (hs x hm) w2 h2⟩
/-- It hands back an owned row of its own that holds xs; what was there is as it was. -/
def RetRow (e : TypeId) (k : Nat) (xs : List (List Value)) (w : World) (en : Ending) (w' : World) : Prop :=
  ∃ A c, en = .returned (.slice A xs.length c) ∧ w'.ownsRow w.heap.size e k (.slice A xs.length c) xs.length xs.flatten ∧ Ext w w'
theorem own_low {w : World} {base k n : Nat} {e : TypeId} {v : Value} {zs : List Value} (h : w.ownsRow base e k v n zs) : ∀ b, v.ownBlock = some b → base ≤ b := fun b hb => by
  rcases h.2 with ⟨rfl, _⟩ | ⟨g, cap, cur, rfl, hg, _⟩
  · simp [Value.ownBlock] at hb
  · simp only [Value.ownBlock, Option.some.injEq] at hb
    omega
theorem take_filter_step {p : List Value → Bool} {xs : List (List Value)} {j : Nat} {x : List Value} (hx : xs[j]? = some x) : (xs.take (j + 1)).filter p = (xs.take j).filter p ++ if p x then [x] else [] := by
  obtain ⟨hi, rfl⟩ := List.getElem?_eq_some_iff.1 hx
  rw [List.take_succ_eq_append_getElem hi, List.filter_append]
  cases h : p xs[j] <;> simp [h]
theorem filter_take_le (p : List Value → Bool) (xs : List (List Value)) (j : Nat) : ((xs.take j).filter p).length ≤ j := by
  have h1 := List.length_filter_le p (xs.take j)
  have h2 := List.length_take_le j xs
  omega
end Go.Proofs.YtcfebfblmmbeaaaDoor

/- A region that draws its order: what each operation yields is known by a property that stays true while memory grows. Calls that make memory are let in. -/
namespace Go.Proofs.YtcfebfblmmbeaaaDoor
open Go Go.RowKit

section
variable {P : Program}
/-- The law by a table, guards let in. -/
theorem wp_region_tabg {G : Type} {Q : Exit → Act → World → Prop} {id : Nat} {a : Act} {w : World} {l : List Oper} (V : G → Nat → Value) (R : World → Array Bool → G → World → Prop) (g0 : G) (hm : P.follows .mixedOrders = true) (hs : Slots l.toArray) (hb : Back l.toArray)
    (h0 : R w (Array.replicate l.length false) g0 w.drew)
    (hstep : ∀ listed g w1 i o, l[i]? = some o → listed.getD i true = false → (∀ e, e ∈ o.after → Region.binds .any e = true → listed.getD e.on false = true) → R w listed g w1 →
      ∀ K : Act → World → Prop, (∀ g' w', R w (listed.setIfInBounds i true) g' w' → (∀ j, j < l.length → listed.getD j true = true → V g' j = V g j) → K ((fill l.toArray (V g) listed a).put o.dst (V g' i)) w') →
        if Region.wanted o (yielded l.toArray (fill l.toArray (V g) listed a).tmps) = true then o.wp P (fill l.toArray (V g) listed a) w1 K Q else K ((fill l.toArray (V g) listed a).put o.dst undef) w1)
    (hend : ∀ listed g w1, (∀ i, i < l.length → listed.getD i true = true) → R w listed g w1 → Q .normal (fill l.toArray (V g) listed a) w1) : (Code.region id l.toArray true).wp P Q a w := by
  refine wp_region_inv (fun listed b w1 => ∃ g, b = fill l.toArray (V g) listed a ∧ R w listed g w1) hm ⟨g0, ?_, h0⟩ ?_ ?_
  · have : ∀ n, fillN l.toArray (V g0) (Array.replicate l.length false) a n = a ∨ l.length < n := by
      intro n
      induction n with
      | zero => exact .inl rfl
      | succ n ih =>
        by_cases hn : l.length < n + 1
        · exact .inr hn
        · rcases ih with ih | ih
          · refine .inl ?_
            unfold fillN
            rw [if_neg (by simp [Array.getD]; omega), ih]
          · omega
    rcases this l.toArray.size with h | h
    · exact h.symm
    · simp at h
  · rintro listed b w1 i ⟨g, rfl, hR⟩ hi
    obtain ⟨hun, o, ho, hdeps⟩ := mem_ready.1 hi
    have ho' : l[i]? = some o := by simpa using ho
    have hi2 : i < l.toArray.size := (Array.getElem?_eq_some_iff.1 ho).1
    refine wpOp_step ho fun K hK => ?_
    refine hstep listed g w1 i o ho' hun hdeps hR K fun g' w' hR' hV => ?_
    refine hK _ _ ⟨g', ?_, hR'⟩
    have hd : dstOf l.toArray i = o.dst := by simp [dstOf, ho']
    rw [← hd, fill_congr (V' := V g') (fun j hl hj => (hV j (by simpa using hj) hl).symm), fill_put hs hi2 hun]
  · rintro listed b w1 ⟨g, rfl, hR⟩ hr
    exact hend listed g w1 (fun i hi => all_done hb hr i (by simpa using hi)) hR

/-- Operation o waits for operation j. -/
def waits (o : Oper) (j : Nat) : Bool := o.after.toList.any fun e => e.on == j && Region.binds .any e
theorem waits_spec {o : Oper} {j : Nat} (h : waits o j = true) : ∃ e, e ∈ o.after ∧ e.on = j ∧ Region.binds .any e = true := by
  unfold waits at h
  rw [List.any_eq_true] at h
  obtain ⟨e, he, h⟩ := h
  simp only [Bool.and_eq_true, beq_iff_eq] at h
  exact ⟨e, by simpa using he, h.1, h.2⟩
/-- The law: Good i says what operation i yields; it stays true while memory grows. -/
theorem wp_region_rel {Q : Exit → Act → World → Prop} {id : Nat} {a : Act} {w : World} {l : List Oper} (Good : Nat → Value → World → Prop) (hm : P.follows .mixedOrders = true) (hs : slotsB l.toArray = true) (hb : backB l.toArray = true) (hfit : ((List.range l.length).all fun j => match dstOf l.toArray j with | some d => decide (d < a.tmps.size) | none => true) = true)
    (hst : ∀ i v w1 w2, Ext w1 w2 → Good i v w1 → Good i v w2)
    (hstep : ∀ (i : Nat) (o : Oper), l[i]? = some o → ∀ (b : Act) (w1 : World), Ext w w1 → (∀ d : Nat, missB l.toArray d = true → b.tmps[d]? = a.tmps[d]?) →
      (∀ j, waits o j = true → ∃ v, Good j v w1 ∧ ∀ d, dstOf l.toArray j = some d → b.tmps[d]? = some v) →
      ∀ K : Act → World → Prop, (∀ v w', Ext w1 w' → Good i v w' → K (b.put o.dst v) w') → if Region.wanted o (yielded l.toArray b.tmps) = true then o.wp P b w1 K Q else K (b.put o.dst undef) w1)
    (hend : ∀ (V : Nat → Value) (w1 : World), Ext w w1 → (∀ i, i < l.length → Good i (V i) w1) → Q .normal (fillAllN l.toArray V a l.length) w1) : (Code.region id l.toArray true).wp P Q a w := by
  have hS := slotsB_spec hs
  have hB := backB_spec hb
  refine wp_region_tabg (G := Nat → Value) (fun g => g) (fun w listed g w1 => Ext w w1 ∧ ∀ i, i < l.length → listed.getD i true = true → Good i (g i) w1) (fun _ => undef) hm hS hB ?_ ?_ ?_
  · refine ⟨(Ext.refl _).drew, fun i hi h => ?_⟩
    have : (Array.replicate l.length false).getD i true = false := by simp [Array.getD, hi]
    rw [this] at h
    cases h
  · intro listed g w1 i o ho hun hdep hR K hK
    have hil : i < l.length := (List.getElem?_eq_some_iff.1 ho).1
    refine hstep i o ho (fill l.toArray g listed a) w1 hR.1 (fun d hd => fill_miss (fun i hi _ => missB_spec hd i hi)) (fun j hj => ?_) K (fun v w' hx hg => ?_)
    · obtain ⟨e, he, rfl, hbd⟩ := waits_spec hj
      have h1 := getD_up (hdep e he hbd)
      have h2 : e.on < l.length := by have := hB i o (by simpa using ho) e he; omega
      refine ⟨g e.on, hR.2 _ h2 h1, fun d hd => fill_hit hS (by simpa using h2) h1 hd ?_⟩
      rw [List.all_eq_true] at hfit
      have h3 := hfit e.on (List.mem_range.2 h2)
      rw [hd] at h3
      simpa using h3
    · have h := hK (fun k => if k = i then v else g k) w' ⟨hR.1.trans hx, fun j hj hl => ?_⟩ (fun j hj hl => ?_)
      · simpa using h
      · by_cases hji : j = i
        · subst hji; simpa using hg
        · simp only [if_neg hji]
          rw [getD_set_ne true (Ne.symm hji)] at hl
          exact hst _ _ _ _ hx (hR.2 j hj hl)
      · have hne : j ≠ i := fun e => by subst e; rw [hl] at hun; cases hun
        simp only [if_neg hne]
  · intro listed g w1 hall hR
    rw [fill_done hall]
    exact hend g w1 hR.1 (fun i hi => hR.2 i hi (hall i hi))

/- Operations, one kind each. -/
variable {o : Oper} {b : Act} {w1 : World} {K : Act → World → Prop} {Q : Exit → Act → World → Prop}
theorem eval_of {d : Nat} {v : Value} (h : b.tmps[d]? = some v) : b.eval (.tmp d) = v := by simp [Act.eval, Array.getD_eq_getD_getElem?, h]
theorem want_none {ops : Array Oper} {t : Array Value} {X Y : Prop} (hg : o.guard = none) (h : X) : if Region.wanted o (yielded ops t) = true then X else Y := by
  rw [if_pos (by simp [Region.wanted, hg])]; exact h
theorem want_yes {ops : Array Oper} {t : Array Value} {X Y : Prop} {j d : Nat} {c : Bool} (hg : o.guard = some (j, c)) (hd : dstOf ops j = some d) (ht : t[d]? = some (.bool c)) (h : X) : if Region.wanted o (yielded ops t) = true then X else Y := by
  have hd2 : (ops[j]?).bind (·.dst) = some d := hd
  rw [if_pos (by simp [Region.wanted, hg, yielded, hd2, ht])]; exact h
theorem want_no {ops : Array Oper} {t : Array Value} {X Y : Prop} {j d : Nat} {c : Bool} (hg : o.guard = some (j, c)) (hd : dstOf ops j = some d) (ht : t[d]? = some (.bool (!c)) ∨ t[d]? = some undef) (h : Y) : if Region.wanted o (yielded ops t) = true then X else Y := by
  have hd2 : (ops[j]?).bind (·.dst) = some d := hd
  rw [if_neg]
  · exact h
  · rcases ht with ht | ht
    · cases c <;> simp [Region.wanted, hg, yielded, hd2, ht]
    · simp [Region.wanted, hg, yielded, hd2, ht, undef]
theorem op_run {v : Value} {w2 : World} (hr : (execOp b.eval o).run P w1 = .ok (.value v) w2) (h : K (b.put o.dst v) w2) : o.wp P b w1 K Q := by
  unfold Oper.wp
  rw [hr]
  exact h
theorem op_move {x : Operand} {v : Value} (ho : o.op = .move x) (hx : b.eval x = v) (h : K (b.put o.dst v) w1) : o.wp P b w1 K Q :=
  op_run (by unfold execOp; simp [ho, hx]) h
theorem op_assign {x : Operand} {v : Value} (ho : o.op = .assign x) (hx : b.eval x = v) (h : K (b.put o.dst v) w1) : o.wp P b w1 K Q :=
  op_run (by unfold execOp; simp [ho, hx]) h
theorem op_loadrow {t : TypeId} {x : Operand} {bk : Nat} {tb : TypeId} {vs : List Value} (ho : o.op = .load t x) (hx : b.eval x = .pointer (some ⟨bk, 0, none⟩)) (hB : Arr w1 bk tb vs) (d : TypeDesc) (hu : P.underlying t = some d)
    (hd : (match d with | .struct _ | .array _ _ => true | _ => false) = true) (hi : (P.info? t).map (·.size) = some vs.length) (h : K (b.put o.dst (.agg vs.toArray)) w1) : o.wp P b w1 K Q :=
  wp_load_row t x ho bk hx tb vs.toArray (0, 0) d hB hu hd (by simpa using hi) h
theorem op_call {f : FuncId} {args : Array Operand} {ts : Array TypeId} {vs : Array Value} {G : Value → World → Prop} (ho : o.op = .call { callee := .value (.func f), args := args, argTypes := ts }) (ha : args.map b.eval = vs) (he : ∀ args w, (callFunc f args).run P w = .ok (.enter f args) w)
    (hc : Calls P f vs w1 fun e w' => ∃ v, e = .returned v ∧ Ext w1 w' ∧ G v w') (h : ∀ v w', Ext w1 w' → G v w' → K (b.put o.dst v) w') : o.wp P b w1 K Q := by
  have hr : (execOp b.eval o).run P w1 = .ok (.enter f vs) w1 := by
    unfold execOp
    simp [ho, resolve, invoke, Deferred.ofValue, Act.eval, ha, he]
  unfold Oper.wp
  rw [hr, Oper.upon_enter]
  refine hc.mono ?_
  rintro e w' ⟨v, rfl, hx, hg⟩
  exact h v w' hx hg
end
end Go.Proofs.YtcfebfblmmbeaaaDoor

/- A run of the model's operations never takes a draw back. For every program. -/
namespace Go.Proofs.YtcfebfblmmbeaaaDoor
open Go Go.RowKit

theorem World_ask_drawn {α : Type} : ∀ (x : Ask α) (w : World), w.drawn ≤ (w.ask x).2.drawn
  | .done a, w => by unfold World.ask; exact Nat.le_refl _
  | .ask what range k, w => by
    unfold World.ask
    dsimp only
    split
    · exact World_ask_drawn (k 0) w
    · exact Nat.le_trans (Nat.le_succ _) (World_ask_drawn (k _) { w with drawn := w.drawn + 1 })
theorem World_sys_drawn (w : World) (c : Sys) : w.drawn ≤ (w.sys c).2.drawn := by
  have h := World_ask_drawn (Kernel.perform c w.os) w
  unfold World.sys
  generalize w.ask (Kernel.perform c w.os) = r at h
  obtain ⟨⟨a, os⟩, w1⟩ := r
  cases a <;> first | exact Nat.le_refl _ | exact h
theorem World_viewStore_drawn {w w' : World} {p : Program} {at_ : Addr} {u : TypeId} {a : Addr} {v : Value} {b : Bool} {l : List Addr} (h : w.viewStore p at_ u a v b = .ok (w', l)) : w'.drawn = w.drawn := by
  unfold World.viewStore at h
  simp only [bind, Except.bind, pure, Except.pure] at h
  repeat (split at h; any_goals (first | cases h; done | skip))
  all_goals (try cases h)
  all_goals (try rfl)
theorem Sem_run_drawn {α : Type} (p : Program) : ∀ (x : Sem α) (w w' : World) (r : α), x.run p w = .ok r w' → w.drawn ≤ w'.drawn := by
  intro x
  induction x with
  | pure a => intro w w' r h; simp only [Sem.run, Result.ok.injEq] at h; obtain ⟨_, rfl⟩ := h; exact Nat.le_refl _
  | load m a k ih =>
    intro w w' r h
    simp only [Sem.run] at h
    split at h
    · exact ih _ _ _ _ h
    · split at h
      · exact ih _ _ _ _ h
      · cases h
  | store m a v k ih =>
    intro w w' r h
    have key : ∀ w1 : World, w1.drawn = w.drawn → k.run p w1 = .ok r w' → w.drawn ≤ w'.drawn := fun w1 h1 h2 => h1 ▸ ih _ _ _ h2
    cases v with
    | agg cs => simp [Sem.run] at h
    | tuple cs => simp [Sem.run] at h
    | _ =>
      simp only [Sem.run] at h
      split at h
      · split at h
        · cases h
        · exact key (w.setCell a _) rfl h
      · split at h
        · rename_i hf
          refine key _ ?_ h
          unfold World.farStore at hf
          split at hf
          · split at hf
            · rename_i hv
              injection hf with hf
              subst hf
              exact World_viewStore_drawn hv
            · cases hf
          · cases hf
        · cases h
  | new o k ih => intro w w' r h; simp only [Sem.run] at h; exact ih w.heap.size { w with heap := w.heap.push o } w' r h
  | shape q k ih => intro w w' r h; simp only [Sem.run] at h; exact ih _ _ _ _ h
  | freeze a n k ih =>
    intro w w' r h
    simp only [Sem.run] at h
    have h1 := ih _ _ _ h
    have h2 : (w.freeze a n).drawn = w.drawn := by unfold World.freeze; (repeat' split) <;> rfl
    rw [h2] at h1; exact h1
  | frozen a k ih => intro w w' r h; simp only [Sem.run] at h; exact ih _ _ _ _ h
  | getObj q k ih =>
    intro w w' r h
    simp only [Sem.run] at h
    split at h
    · cases h
    · exact ih _ _ _ _ h
    · cases h
  | setObj q o k ih =>
    intro w w' r h
    simp only [Sem.run] at h
    split at h
    · cases h
    · exact ih { w with heap := w.heap.setIfInBounds q o } w' r h
    · cases h
  | choose q k ih =>
    intro w w' r h
    simp only [Sem.run] at h
    split at h
    · exact ih _ _ _ _ h
    · have := ih _ _ _ _ h
      simp at this
      omega
  | sys c k ih => intro w w' r h; simp only [Sem.run] at h; exact Nat.le_trans (World_sys_drawn w c) (ih _ _ _ _ h)
  | program k ih => intro w w' r h; simp only [Sem.run] at h; exact ih _ _ _ _ h
  | mark m k ih => intro w w' r h; simp only [Sem.run] at h; exact ih _ _ _ h
  | halt h => intro w w' r h; simp [Sem.run] at h
end Go.Proofs.YtcfebfblmmbeaaaDoor

/- Append onto a row of the call's own, the source any slice of rows: nil, empty or not. Cuts of such a slice. -/
namespace Go.Proofs.YtcfebfblmmbeaaaDoor
open Go Go.RowKit

section
variable {P : Program} (w : World)
theorem run_append_ofnil (base : Nat) (t ty e : TypeId) (i : TypeInfo) (size : Nat) (ht : P.underlying t = some (.slice e)) (hi : P.info? e = some i)
    (v : Value) (n : Nat) (xs : List Value) (hown : w.ownsRow base e size v n xs) (c : Nat) : (Builtin.append_ #[t, t] ty #[v, .slice none 0 c]).run P w = .ok v w := by
  rcases hown.2 with ⟨rfl, rfl⟩ | ⟨g, cap, cur, rfl, _, _, hnc, _⟩
  · simp [Builtin.append_, run_underlying ht, sizeOf, typeInfo, hi, Builtin.lenOf, Builtin.firstCells]
  · simp [Builtin.append_, run_underlying ht, sizeOf, typeInfo, hi, Builtin.lenOf, Builtin.firstCells, hnc, storeCells]
theorem run_append_sv (base : Nat) (t ty e : TypeId) (i : TypeInfo) (z : Value) (size bytes : Nat) (ht : P.underlying t = some (.slice e)) (hi : P.info? e = some i) (hz : i.zero = some z)
    (hsize : i.size = size) (hby : i.bytes = bytes) (hzs : z.cells.size = size) (hsz : 0 < size)
    (v : Value) (n : Nat) (xs : List Value) (hown : w.ownsRow base e size v n xs)
    (B : Nat) (A : Option Addr) (m c : Nat) (news : List (List Value)) (hr : Sv w B size A c news) (hm : news.length = m)
    (h63 : n + m ≤ maxLen) (hbytes : (n + m) * bytes ≤ 140737488355328) (hbase : base ≤ w.heap.size) :
    ∃ v' w', (Builtin.append_ #[t, t] ty #[v, .slice A m c]).run P w = .ok v' w' ∧ w'.ownsRow base e size v' (n + m) (xs ++ news.flatten) ∧ w.grownBy w' v.ownBlock ∧
      (v'.ownBlock = v.ownBlock ∨ v'.ownBlock = some w.heap.size) := by
  subst hm
  rcases A with _ | ad
  · have hn : news = [] := by
      rcases Nat.eq_zero_or_pos news.length with h0 | h0
      · exact List.eq_nil_of_length_eq_zero h0
      · obtain ⟨b, off, h, _⟩ := hr.mem h0
        cases h
    subst hn
    exact ⟨v, w, run_append_ofnil w base t ty e i size ht hi v n xs hown c, by simpa using hown, World.grownBy.refl w _, .inl rfl⟩
  · obtain ⟨v', w', hrun, h2, h3, _, h5⟩ := run_append_own_at (P := P) w base t ty e i z size bytes ht hi hz hsize hby hzs hsz v n xs hown ad news.length c news.flatten (flatten_length _ hr.rows.len) hr.news hr.rows.one h63 hbytes hbase
    exact ⟨v', w', hrun, h2, h3, h5⟩
theorem wpList_append_sv {ops : Array Oper} {rest : List Oper} {o : Oper} {a : Act} {Q : Exit → Act → World → Prop} (hgd : o.guard = none) (s x : Operand) (t : TypeId)
    (ho : o.op = .call { callee := .builtin .append, args := #[s, x], argTypes := #[t, t] })
    (base : Nat) (e : TypeId) (i : TypeInfo) (z : Value) (size bytes : Nat) (ht : P.underlying t = some (.slice e)) (hi : P.info? e = some i) (hz : i.zero = some z)
    (hsize : i.size = size) (hby : i.bytes = bytes) (hzs : z.cells.size = size) (hsz : 0 < size)
    (v : Value) (n : Nat) (xs : List Value) (hs : a.eval s = v) (hown : w.ownsRow base e size v n xs)
    (B : Nat) (A : Option Addr) (m c : Nat) (news : List (List Value)) (hx : a.eval x = .slice A m c) (hr : Sv w B size A c news) (hm : news.length = m)
    (h63 : n + m ≤ maxLen) (hbytes : (n + m) * bytes ≤ 140737488355328) (hbase : base ≤ w.heap.size)
    (h : ∀ v' w', w'.ownsRow base e size v' (n + m) (xs ++ news.flatten) → w.grownBy w' v.ownBlock → (v'.ownBlock = v.ownBlock ∨ v'.ownBlock = some w.heap.size) → wpList P ops Q rest (a.put o.dst v') w') : wpList P ops Q (o :: rest) a w := by
  refine wpList_plain hgd fun K hK' => ?_
  obtain ⟨v', w', hrun, r1, r2, r3⟩ := run_append_sv (P := P) w base t o.type e i z size bytes ht hi hz hsize hby hzs hsz v n xs hown B A m c news hr hm h63 hbytes hbase
  unfold Oper.wp
  simp [execOp, ho, resolve, invoke, builtin, hs, hx, hrun, Result.andThen]
  exact hK' _ _ (h v' w' r1 r2 r3)
end

section
variable {w w' : World} {B k c : Nat} {A : Option Addr} {xs : List (List Value)}
theorem Sv.take (h : Sv w B k A c xs) (i : Nat) : Sv w B k A c (xs.take i) :=
  ⟨by have h1 := h.le; rw [List.length_take]; omega, h.max, h.rows.sub fun x hx => List.mem_of_mem_take hx, fun hn => by
    rw [List.length_take] at hn
    obtain ⟨b, off, e, hb, hc⟩ := h.mem (by omega)
    refine ⟨b, off, e, hb, fun j u hu => hc j u ?_⟩
    have e2 : xs.flatten = (xs.take i).flatten ++ (xs.drop i).flatten := by rw [← List.flatten_append, List.take_append_drop]
    rw [e2, List.getElem?_append_left (List.getElem?_eq_some_iff.1 hu).1]
    exact hu⟩
theorem Sv.drop (h : Sv w B k A c xs) {i : Nat} (hi : i ≤ xs.length) : Sv w B k (if c = i then A else A.map (·.add (i * k))) (c - i) (xs.drop i) :=
  ⟨by have h1 := h.le; rw [List.length_drop]; omega, by have h1 := h.max; omega, h.rows.sub fun x hx => List.mem_of_mem_drop hx, fun hn => by
    rw [List.length_drop] at hn
    have h1 := h.le
    obtain ⟨b, off, e, hb, hc⟩ := h.mem (by omega)
    rw [if_neg (by omega), e]
    refine ⟨b, off + i * k, by simp [add_lit], hb, fun j u hu => ?_⟩
    have e2 : xs.flatten = (xs.take i).flatten ++ (xs.drop i).flatten := by rw [← List.flatten_append, List.take_append_drop]
    have e3 : (xs.take i).flatten.length = i * k := by rw [flatten_length _ (fun y hy => h.rows.len y (List.mem_of_mem_take hy)), List.length_take]; congr 1; omega
    rw [Nat.add_assoc]
    refine hc _ u ?_
    rw [e2, List.getElem?_append_right (by omega), e3, Nat.add_sub_cancel_left]
    exact hu⟩
theorem Sv.grown (h : Sv w w.heap.size k A c xs) {row : Option Nat} (hg : w.grownBy w' row) (ha : ∀ a : Addr, A = some a → row ≠ some a.block) : Sv w' w'.heap.size k A c xs :=
  ⟨h.le, h.max, h.rows, fun hn => by
    obtain ⟨b, off, e, hb, hc⟩ := h.mem hn
    refine ⟨b, off, e, Nat.lt_of_lt_of_le hb hg.size, fun j u hu => ?_⟩
    rw [World.cell?_of_block (hg.block b hb (fun e2 => ha _ e e2.symm))]
    exact hc j u hu⟩
end
end Go.Proofs.YtcfebfblmmbeaaaDoor

/- Memory that grows and draws that are never taken back; regions of such operations; two variables made and stored in one region. -/
namespace Go.Proofs.YtcfebfblmmbeaaaDoor
open Go Go.RowKit

structure ExtD (w w' : World) : Prop where
  ext : Ext w w'
  drawn : w.drawn ≤ w'.drawn
theorem ExtD.refl (w : World) : ExtD w w := ⟨Ext.refl w, Nat.le_refl _⟩
theorem ExtD.trans {a b c : World} (h : ExtD a b) (k : ExtD b c) : ExtD a c := ⟨h.ext.trans k.ext, Nat.le_trans h.drawn k.drawn⟩
theorem ExtD.drew {a w : World} (h : ExtD a w) : ExtD a w.drew := ⟨h.ext.drew, Nat.le_trans h.drawn (Nat.le_succ _)⟩
theorem ExtD.alloc {a w : World} (h : ExtD a w) (o : Obj) : ExtD a (w.alloc o) := ⟨h.ext.alloc o, h.drawn⟩
theorem ExtD.setCell {a w : World} (h : ExtD a w) {p : Addr} (hp : a.heap.size ≤ p.block) (u : Value) : ExtD a (w.setCell p u) := ⟨h.ext.setCell hp u, h.drawn⟩
theorem ExtD.setRow {a w : World} (h : ExtD a w) {g : Nat} (hg : a.heap.size ≤ g) (cs : Array Value) : ExtD a (w.setRow g cs) := ⟨h.ext.setRow hg cs, h.drawn⟩
theorem ExtD.same {a w w' : World} (h : ExtD a w) (e : w = w') : ExtD a w' := e ▸ h
section
variable {P : Program}
/-- The law: Good i says what operation i yields; it stays true while memory grows. -/
theorem wp_region_relD {Q : Exit → Act → World → Prop} {id : Nat} {a : Act} {w : World} {l : List Oper} (Good : Nat → Value → World → Prop) (hm : P.follows .mixedOrders = true) (hs : slotsB l.toArray = true) (hb : backB l.toArray = true) (hfit : ((List.range l.length).all fun j => match dstOf l.toArray j with | some d => decide (d < a.tmps.size) | none => true) = true)
    (hst : ∀ i v w1 w2, Ext w1 w2 → Good i v w1 → Good i v w2)
    (hstep : ∀ (i : Nat) (o : Oper), l[i]? = some o → ∀ (b : Act) (w1 : World), ExtD w w1 → (∀ d : Nat, missB l.toArray d = true → b.tmps[d]? = a.tmps[d]?) →
      (∀ j, waits o j = true → ∃ v, Good j v w1 ∧ ∀ d, dstOf l.toArray j = some d → b.tmps[d]? = some v) →
      ∀ K : Act → World → Prop, (∀ v w', ExtD w1 w' → Good i v w' → K (b.put o.dst v) w') → if Region.wanted o (yielded l.toArray b.tmps) = true then o.wp P b w1 K Q else K (b.put o.dst undef) w1)
    (hend : ∀ (V : Nat → Value) (w1 : World), ExtD w w1 → (∀ i, i < l.length → Good i (V i) w1) → Q .normal (fillAllN l.toArray V a l.length) w1) : (Code.region id l.toArray true).wp P Q a w := by
  have hS := slotsB_spec hs
  have hB := backB_spec hb
  refine wp_region_tabg (G := Nat → Value) (fun g => g) (fun w listed g w1 => ExtD w w1 ∧ ∀ i, i < l.length → listed.getD i true = true → Good i (g i) w1) (fun _ => undef) hm hS hB ?_ ?_ ?_
  · refine ⟨(ExtD.refl _).drew, fun i hi h => ?_⟩
    have : (Array.replicate l.length false).getD i true = false := by simp [Array.getD, hi]
    rw [this] at h
    cases h
  · intro listed g w1 i o ho hun hdep hR K hK
    have hil : i < l.length := (List.getElem?_eq_some_iff.1 ho).1
    refine hstep i o ho (fill l.toArray g listed a) w1 hR.1 (fun d hd => fill_miss (fun i hi _ => missB_spec hd i hi)) (fun j hj => ?_) K (fun v w' hx hg => ?_)
    · obtain ⟨e, he, rfl, hbd⟩ := waits_spec hj
      have h1 := getD_up (hdep e he hbd)
      have h2 : e.on < l.length := by have := hB i o (by simpa using ho) e he; omega
      refine ⟨g e.on, hR.2 _ h2 h1, fun d hd => fill_hit hS (by simpa using h2) h1 hd ?_⟩
      rw [List.all_eq_true] at hfit
      have h3 := hfit e.on (List.mem_range.2 h2)
      rw [hd] at h3
      simpa using h3
    · have h := hK (fun k => if k = i then v else g k) w' ⟨hR.1.trans hx, fun j hj hl => ?_⟩ (fun j hj hl => ?_)
      · simpa using h
      · by_cases hji : j = i
        · subst hji; simpa using hg
        · simp only [if_neg hji]
          rw [getD_set_ne true (Ne.symm hji)] at hl
          exact hst _ _ _ _ hx.ext (hR.2 j hj hl)
      · have hne : j ≠ i := fun e => by subst e; rw [hl] at hun; cases hun
        simp only [if_neg hne]
  · intro listed g w1 hall hR
    rw [fill_done hall]
    exact hend g w1 hR.1 (fun i hi => hR.2 i hi (hall i hi))


variable {o : Oper} {b : Act} {w1 : World} {K : Act → World → Prop} {Q : Exit → Act → World → Prop}
theorem op_callD {f : FuncId} {args : Array Operand} {ts : Array TypeId} {vs : Array Value} {G : Value → World → Prop} (ho : o.op = .call { callee := .value (.func f), args := args, argTypes := ts }) (ha : args.map b.eval = vs) (he : ∀ args w, (callFunc f args).run P w = .ok (.enter f args) w)
    (hc : Calls P f vs w1 fun e w' => ∃ v, e = .returned v ∧ ExtD w1 w' ∧ G v w') (h : ∀ v w', ExtD w1 w' → G v w' → K (b.put o.dst v) w') : o.wp P b w1 K Q := by
  have hr : (execOp b.eval o).run P w1 = .ok (.enter f vs) w1 := by
    unfold execOp
    simp [ho, resolve, invoke, Deferred.ofValue, Act.eval, ha, he]
  unfold Oper.wp
  rw [hr, Oper.upon_enter]
  refine hc.mono ?_
  rintro e w' ⟨v, rfl, hx, hg⟩
  exact h v w' hx hg

/-- The class of the worlds that come of w by draws and new blocks. -/
def nearD (w : World) (n : Nat) (os : Array Obj) : World := { w with heap := w.heap ++ os, drawn := w.drawn + n }
theorem nearD_old (w : World) (n : Nat) (os : Array Obj) (b o : Nat) (h : b < w.heap.size) : (nearD w n os).cell? ⟨b, o, none⟩ = w.cell? ⟨b, o, none⟩ := by
  simp only [World.cell?, nearD, Array.getElem?_append, h, if_true]
theorem nearD_drew (w : World) : w.drew = nearD w 1 #[] := by unfold nearD World.drew; rw [Array.append_empty]
theorem ExtD.of_nearD {w w' : World} (h : ∃ p : Near, w' = nearD w p.n p.os) : ExtD w w' := by
  obtain ⟨p, rfl⟩ := h
  have h1 : Ext w (near w (w.drawn + p.n) p.os) := Ext.of_near ⟨⟨_, p.os⟩, rfl⟩
  exact ⟨h1, Nat.le_add_right _ _⟩
theorem ExtD.nearD {w w' : World} (h : ExtD w w') : ∃ p : Near, w' = Go.Proofs.YtcfebfblmmbeaaaDoor.nearD w p.n p.os := by
  obtain ⟨p, hp⟩ := h.ext.near
  have hd := h.drawn
  refine ⟨⟨w'.drawn - w.drawn, p.os⟩, ?_⟩
  rw [hp] at hd ⊢
  unfold Go.Proofs.YtcfebfblmmbeaaaDoor.nearD Go.Proofs.YtcfebfblmmbeaaaDoor.near at *
  simp only at hd ⊢
  congr 1
  omega
theorem wp_region_nearD_tail {id : Nat} {Q : Exit → Act → World → Prop} {a : Act} {w : World} {l : List Oper} (n : Nat) (hm : P.follows .mixedOrders = true) (hB : Region.lexTailB .any l.toArray n = true)
    (h : wpQuiet P l.toArray (fun w' => ∃ p : Near, w' = nearD w p.n p.os) (fun a' => ∀ w', (∃ p : Near, w' = nearD w p.n p.os) → wpList P l.toArray Q (l.drop n) a' w') (l.take n) a) : (Code.region id l.toArray true).wp P Q a w :=
  wp_region_head n hm hB ⟨⟨1, #[]⟩, nearD_drew w⟩ h
theorem nearD_same {f : FuncId} {args : Array Value} {w : World} {n : Nat} {os : Array Obj} {v : Value}
    (h : Calls P f args (nearD w n os) fun e w' => e = .returned v ∧ nearD w n os = w') : Calls P f args (nearD w n os) fun e w'' => e = .returned v ∧ ∃ p : Near, w'' = nearD w p.n p.os :=
  h.mono fun _ _ ⟨he, hx⟩ => ⟨he, ⟨⟨n, os⟩, hx.symm⟩⟩
/-- An append's run never takes a draw back. -/
theorem wpList_append_svD {ops : Array Oper} {rest : List Oper} {o : Oper} {a : Act} {w : World} {Q : Exit → Act → World → Prop} (hgd : o.guard = none) (s x : Operand) (t : TypeId)
    (ho : o.op = .call { callee := .builtin .append, args := #[s, x], argTypes := #[t, t] })
    (base : Nat) (e : TypeId) (i : TypeInfo) (z : Value) (size bytes : Nat) (ht : P.underlying t = some (.slice e)) (hi : P.info? e = some i) (hz : i.zero = some z)
    (hsize : i.size = size) (hby : i.bytes = bytes) (hzs : z.cells.size = size) (hsz : 0 < size)
    (v : Value) (n : Nat) (xs : List Value) (hs : a.eval s = v) (hown : w.ownsRow base e size v n xs)
    (B : Nat) (A : Option Addr) (m c : Nat) (news : List (List Value)) (hx : a.eval x = .slice A m c) (hr : Sv w B size A c news) (hm : news.length = m)
    (h63 : n + m ≤ maxLen) (hbytes : (n + m) * bytes ≤ 140737488355328) (hbase : base ≤ w.heap.size)
    (h : ∀ v' w', w'.ownsRow base e size v' (n + m) (xs ++ news.flatten) → w.grownBy w' v.ownBlock → (v'.ownBlock = v.ownBlock ∨ v'.ownBlock = some w.heap.size) → w.drawn ≤ w'.drawn → wpList P ops Q rest (a.put o.dst v') w') : wpList P ops Q (o :: rest) a w := by
  refine wpList_plain hgd fun K hK' => ?_
  obtain ⟨v', w', hrun, r1, r2, r3⟩ := run_append_sv (P := P) w base t o.type e i z size bytes ht hi hz hsize hby hzs hsz v n xs hown B A m c news hr hm h63 hbytes hbase
  have hd := Sem_run_drawn P _ _ _ _ hrun
  unfold Oper.wp
  simp [execOp, ho, resolve, invoke, builtin, hs, hx, hrun, Result.andThen]
  exact hK' _ _ (h v' w' r1 r2 r3 hd)
theorem ExtD.own {a w w' : World} {base n k : Nat} {e : TypeId} {v : Value} {zs : List Value} (h : ExtD a w) (ho : w.ownsRow base e k v n zs) (hg : w.grownBy w' v.ownBlock) (hd : w.drawn ≤ w'.drawn) (hb : a.heap.size ≤ base) : ExtD a w' := ⟨h.ext.own ho hg hb, Nat.le_trans h.drawn hd⟩

theorem noGuardD {l : List Oper} (h : (l.all fun o => o.guard.isNone) = true) : ∀ (i : Nat) (o : Oper), l[i]? = some o → o.guard = none := fun i o ho => by
  rw [List.all_eq_true] at h
  simpa using h o (List.mem_of_getElem? ho)
/-- Two variables of one type. -/
structure Box2 (T : TypeId) (n : Nat) (zs c0 c1 : List Value) (W : World) (listed : Array Bool) (g : Nat × Nat) (w : World) : Prop where
  ext : ExtD W w
  l0 : listed.getD n true = true → W.heap.size ≤ g.1 ∧ Arr w g.1 T (if listed.getD (n + 2) true = true then c0 else zs)
  l1 : listed.getD (n + 1) true = true → W.heap.size ≤ g.2 ∧ Arr w g.2 T (if listed.getD (n + 3) true = true then c1 else zs)
  ne : listed.getD n true = true → listed.getD (n + 1) true = true → g.1 ≠ g.2
  s0 : listed.getD (n + 2) true = true → listed.getD n true = true
  s1 : listed.getD (n + 3) true = true → listed.getD (n + 1) true = true
def box2V (V : Nat → Value) (n : Nat) (g : Nat × Nat) (i : Nat) : Value := if i < n then V i else if i = n then .pointer (some ⟨g.1, 0, none⟩) else if i = n + 1 then .pointer (some ⟨g.2, 0, none⟩) else undef
theorem Box2.keep {T n : Nat} {zs c0 c1 : List Value} {W w w' : World} {listed : Array Bool} {g : Nat × Nat} (h : Box2 T n zs c0 c1 W listed g w) {i : Nat} (hi : i < n) (hx : ExtD w w') : Box2 T n zs c0 c1 W (listed.setIfInBounds i true) g w' := by
  have h1 : ∀ k, n ≤ k → (listed.setIfInBounds i true).getD k true = listed.getD k true := fun k hk => getD_set_ne true (by omega)
  refine ⟨h.ext.trans hx, ?_, ?_, ?_, ?_, ?_⟩
  · rw [h1 n (Nat.le_refl _), h1 (n + 2) (by omega)]; intro h3; exact ⟨(h.l0 h3).1, (h.l0 h3).2.ext hx.ext⟩
  · rw [h1 (n + 1) (by omega), h1 (n + 3) (by omega)]; intro h3; exact ⟨(h.l1 h3).1, (h.l1 h3).2.ext hx.ext⟩
  · rw [h1 n (Nat.le_refl _), h1 (n + 1) (by omega)]; exact h.ne
  · rw [h1 n (Nat.le_refl _), h1 (n + 2) (by omega)]; exact h.s0
  · rw [h1 (n + 1) (by omega), h1 (n + 3) (by omega)]; exact h.s1
theorem wp_region_two {id : Nat} {Q : Exit → Act → World → Prop} {a : Act} {w : World} {l : List Oper} (V : Nat → Value) (n T d0 d1 sv0 sv1 iv0 iv1 : Nat) (zs c0 c1 : List Value) (hm : P.follows .mixedOrders = true) (hs : slotsB l.toArray = true) (hb : backB l.toArray = true)
    (hg : ∀ (i : Nat) (o : Oper), l[i]? = some o → o.guard = none) (hln : l.length = n + 4)
    (ha0 : ∃ o, l[n]? = some o ∧ o.op = .alloc T ∧ o.dst = some d0) (ha1 : ∃ o, l[n + 1]? = some o ∧ o.op = .alloc T ∧ o.dst = some d1)
    (hs0 : ∃ o, l[n + 2]? = some o ∧ o.op = .store T (.tmp d0) (.tmp sv0) ∧ o.dst = none ∧ waits o n = true ∧ waits o iv0 = true)
    (hs1 : ∃ o, l[n + 3]? = some o ∧ o.op = .store T (.tmp d1) (.tmp sv1) ∧ o.dst = none ∧ waits o (n + 1) = true ∧ waits o iv1 = true)
    (hi0 : iv0 < n) (hi1 : iv1 < n) (hv0 : dstOf l.toArray iv0 = some sv0) (hv1 : dstOf l.toArray iv1 = some sv1) (hb0 : sv0 < a.tmps.size) (hb1 : sv1 < a.tmps.size) (hd0 : d0 < a.tmps.size) (hd1 : d1 < a.tmps.size) (hV0 : V iv0 = .agg c0.toArray) (hV1 : V iv1 = .agg c1.toArray)
    (hz : ∃ i z, P.info? T = some i ∧ i.zero = some z ∧ z.cells.toList = zs) (hi : (P.info? T).map (·.size) = some zs.length) (hz0 : c0.length = zs.length) (hz1 : c1.length = zs.length) (ho0 : c0.all (·.oneCell') = true) (ho1 : c1.all (·.oneCell') = true)
    (hhead : ∀ (listed : Array Bool) (w1 : World) (i : Nat) (o : Oper), l[i]? = some o → i < n → (∀ e, e ∈ o.after → Region.binds .any e = true → listed.getD e.on false = true) → ExtD w w1 →
      ∀ (b : Act) (K : Act → World → Prop), (∀ d : Nat, missB l.toArray d = true → b.tmps[d]? = a.tmps[d]?) → (∀ j d, j < n → listed.getD j true = true → dstOf l.toArray j = some d → d < a.tmps.size → b.tmps[d]? = some (V j)) →
      (∀ w', ExtD w1 w' → K (b.put o.dst (V i)) w') → o.wp P b w1 K Q)
    (hend : ∀ (g : Nat × Nat) w1, ExtD w w1 → w.heap.size ≤ g.1 → w.heap.size ≤ g.2 → Arr w1 g.1 T c0 → Arr w1 g.2 T c1 → g.1 ≠ g.2 → Q .normal (fillAllN l.toArray (box2V V n g) a l.length) w1) : (Code.region id l.toArray true).wp P Q a w := by
  refine wp_region_slots (box2V V n) (Box2 T n zs c0 c1) (0, 0) hm hs hb hg ?_ ?_ ?_
  · have h0 : ∀ k, k < l.length → (Array.replicate l.length false).getD k true = false := fun k hk => by simp [Array.getD, hk]
    exact ⟨(ExtD.refl _).drew, fun h => (by rw [h0 n (by omega)] at h; cases h), fun h => (by rw [h0 (n + 1) (by omega)] at h; cases h), fun h => (by rw [h0 n (by omega)] at h; cases h), fun h => (by rw [h0 (n + 2) (by omega)] at h; cases h), fun h => (by rw [h0 (n + 3) (by omega)] at h; cases h)⟩
  · intro listed g w1 i o ho hun hdep hR b K E0 E1 hK
    have hil : i < l.length := (List.getElem?_eq_some_iff.1 ho).1
    obtain ⟨ie, z, hie, hzz, hzl2⟩ := hz
    have hzc : z.cells = zs.toArray := by rw [← hzl2]
    have hlist : ∀ k, k ≠ i → (listed.setIfInBounds i true).getD k true = listed.getD k true := fun k hk => getD_set_ne true (Ne.symm hk)
    have hset : (listed.setIfInBounds i true).getD i true = true := by
      by_cases h : i < listed.size <;> simp [Array.getD, h]
    have hwait : ∀ j, waits o j = true → listed.getD j true = true := fun j hj => by
      obtain ⟨e, he, rfl, hbd⟩ := waits_spec hj
      exact getD_up (hdep e he hbd)
    by_cases hin : i < n
    · refine hhead listed w1 i o ho hin hdep hR.ext b K E0 (fun j d hj hl hd hds => ?_) (fun w' hx => ?_)
      · have h := E1 j d (by omega) hl hd hds
        rw [h]; unfold box2V; rw [if_pos hj]
      · have h := hK g w' (hR.keep hin hx) (fun _ _ _ => rfl)
        unfold box2V at h
        rw [if_pos hin] at h
        exact h
    · rcases (show i = n ∨ i = n + 1 ∨ i = n + 2 ∨ i = n + 3 by omega) with rfl | rfl | rfl | rfl
      · obtain ⟨o2, ho2, hop, hdst⟩ := ha0
        rw [ho] at ho2; injection ho2 with ho2; subst ho2
        have hnext : listed.getD (i + 2) true = false := by
          cases hq : listed.getD (i + 2) true
          · rfl
          · have := hR.s0 hq; rw [this] at hun; cases hun
        have hK2 := hK (w1.heap.size, g.2) (w1.alloc (.cells zs.toArray T)) ⟨hR.ext.alloc _, fun _ => ⟨hR.ext.ext.size, by rw [hlist _ (by omega), hnext]; exact Arr.new w1 T zs⟩, fun h => (by
            rw [hlist _ (by omega)] at h
            rw [hlist _ (by omega)]
            exact ⟨(hR.l1 h).1, (hR.l1 h).2.alloc _⟩), fun _ h => (by
            rw [hlist _ (by omega)] at h
            have := (hR.l1 h).2.lt
            simp only
            omega), fun _ => hset, fun h => (by rw [hlist _ (by omega)] at h; rw [hlist _ (by omega)]; exact hR.s1 h)⟩ (fun j hj hl => by
            have hne : j ≠ i := fun e => by subst e; rw [hl] at hun; cases hun
            unfold box2V
            simp only [if_neg hne])
        have hbv : box2V V i (w1.heap.size, g.2) i = .pointer (some ⟨w1.heap.size, 0, none⟩) := by unfold box2V; simp
        rw [hbv] at hK2
        have hrun : (execOp b.eval o).run P w1 = .ok (.value (.pointer (some ⟨w1.heap.size, 0, none⟩))) (w1.alloc (.cells zs.toArray T)) := by
          unfold execOp
          simp only [hop]
          simp [Instr.alloc, zeroValue, typeInfo, hie, hzz, newVar, newRow, hzc]
        unfold Oper.wp
        rw [hrun]
        exact hK2
      · obtain ⟨o2, ho2, hop, hdst⟩ := ha1
        rw [ho] at ho2; injection ho2 with ho2; subst ho2
        have hnext : listed.getD (n + 3) true = false := by
          cases hq : listed.getD (n + 3) true
          · rfl
          · have := hR.s1 hq; rw [this] at hun; cases hun
        have hK2 := hK (g.1, w1.heap.size) (w1.alloc (.cells zs.toArray T)) ⟨hR.ext.alloc _, fun h => (by
            rw [hlist _ (by omega)] at h
            rw [hlist _ (by omega)]
            exact ⟨(hR.l0 h).1, (hR.l0 h).2.alloc _⟩), fun _ => ⟨hR.ext.ext.size, by rw [hlist _ (by omega), hnext]; exact Arr.new w1 T zs⟩, fun h _ => (by
            rw [hlist _ (by omega)] at h
            have := (hR.l0 h).2.lt
            simp only
            omega), fun h => (by rw [hlist _ (by omega)] at h; rw [hlist _ (by omega)]; exact hR.s0 h), fun _ => hset⟩ (fun j hj hl => by
            have hne : j ≠ n + 1 := fun e => by subst e; rw [hl] at hun; cases hun
            unfold box2V
            simp only [if_neg hne])
        have hbv : box2V V n (g.1, w1.heap.size) (n + 1) = .pointer (some ⟨w1.heap.size, 0, none⟩) := by unfold box2V; rw [if_neg (by omega), if_neg (by omega), if_pos rfl]
        rw [hbv] at hK2
        have hrun : (execOp b.eval o).run P w1 = .ok (.value (.pointer (some ⟨w1.heap.size, 0, none⟩))) (w1.alloc (.cells zs.toArray T)) := by
          unfold execOp
          simp only [hop]
          simp [Instr.alloc, zeroValue, typeInfo, hie, hzz, newVar, newRow, hzc]
        unfold Oper.wp
        rw [hrun]
        exact hK2
      · obtain ⟨o2, ho2, hop, hdst, hw1, hw2⟩ := hs0
        rw [ho] at ho2; injection ho2 with ho2; subst ho2
        have hl1 := hwait _ hw1
        have hl2 := hwait _ hw2
        obtain ⟨q1, q2⟩ := hR.l0 hl1
        rw [hun] at q2
        simp only [Bool.false_eq_true, if_false] at q2
        obtain ⟨oa, hoa, hopa, hdsta⟩ := ha0
        have hda : dstOf l.toArray n = some d0 := by simp [dstOf, hoa, hdsta]
        have t1 := E1 n d0 (by omega) hl1 hda hd0
        have t2 := E1 iv0 sv0 (by omega) hl2 hv0 hb0
        have bv1 : box2V V n g n = .pointer (some ⟨g.1, 0, none⟩) := by unfold box2V; simp
        have bv2 : box2V V n g iv0 = .agg c0.toArray := by unfold box2V; rw [if_pos hi0, hV0]
        rw [bv1] at t1
        rw [bv2] at t2
        have hK2 := hK g (w1.setRow g.1 c0.toArray) ⟨hR.ext.setRow q1 _, fun _ => ⟨q1, by rw [hset]; exact q2.setRow c0⟩, fun h => (by
            rw [hlist _ (by omega)] at h
            rw [hlist _ (by omega)]
            exact ⟨(hR.l1 h).1, (hR.l1 h).2.setRow_other (Ne.symm (hR.ne hl1 h)) _⟩), fun h k => (by rw [hlist _ (by omega)] at h k; exact hR.ne h k), fun _ => by rw [hlist n (by omega)]; exact hl1, fun h => (by rw [hlist _ (by omega)] at h; rw [hlist _ (by omega)]; exact hR.s1 h)⟩ (fun _ _ _ => rfl)
        have bv3 : box2V V n g (n + 2) = undef := by unfold box2V; rw [if_neg (by omega), if_neg (by omega), if_neg (by omega)]
        rw [bv3] at hK2
        exact wp_store_row T (.tmp d0) (.tmp sv0) hop g.1 c0.toArray (by simp [Act.eval, Array.getD_eq_getD_getElem?, t1]) (by simp [Act.eval, Array.getD_eq_getD_getElem?, t2]) T zs.toArray q2 (by rw [hi]; simp [hz0]) (by simp [hz0]) (by simpa using ho0) hK2
      · obtain ⟨o2, ho2, hop, hdst, hw1, hw2⟩ := hs1
        rw [ho] at ho2; injection ho2 with ho2; subst ho2
        have hl1 := hwait _ hw1
        have hl2 := hwait _ hw2
        obtain ⟨q1, q2⟩ := hR.l1 hl1
        rw [hun] at q2
        simp only [Bool.false_eq_true, if_false] at q2
        obtain ⟨oa, hoa, hopa, hdsta⟩ := ha1
        have hda : dstOf l.toArray (n + 1) = some d1 := by simp [dstOf, hoa, hdsta]
        have t1 := E1 (n + 1) d1 (by omega) hl1 hda hd1
        have t2 := E1 iv1 sv1 (by omega) hl2 hv1 hb1
        have bv1 : box2V V n g (n + 1) = .pointer (some ⟨g.2, 0, none⟩) := by unfold box2V; rw [if_neg (by omega), if_neg (by omega), if_pos rfl]
        have bv2 : box2V V n g iv1 = .agg c1.toArray := by unfold box2V; rw [if_pos hi1, hV1]
        rw [bv1] at t1
        rw [bv2] at t2
        have hK2 := hK g (w1.setRow g.2 c1.toArray) ⟨hR.ext.setRow q1 _, fun h => (by
            rw [hlist _ (by omega)] at h
            rw [hlist _ (by omega)]
            exact ⟨(hR.l0 h).1, (hR.l0 h).2.setRow_other (hR.ne h hl1) _⟩), fun _ => ⟨q1, by rw [hset]; exact q2.setRow c1⟩, fun h k => (by rw [hlist _ (by omega)] at h k; exact hR.ne h k), fun h => (by rw [hlist _ (by omega)] at h; rw [hlist _ (by omega)]; exact hR.s0 h), fun _ => by rw [hlist (n + 1) (by omega)]; exact hl1⟩ (fun _ _ _ => rfl)
        have bv3 : box2V V n g (n + 3) = undef := by unfold box2V; rw [if_neg (by omega), if_neg (by omega), if_neg (by omega)]
        rw [bv3] at hK2
        exact wp_store_row T (.tmp d1) (.tmp sv1) hop g.2 c1.toArray (by simp [Act.eval, Array.getD_eq_getD_getElem?, t1]) (by simp [Act.eval, Array.getD_eq_getD_getElem?, t2]) T zs.toArray q2 (by rw [hi]; simp [hz1]) (by simp [hz1]) (by simpa using ho1) hK2
  · intro listed g w1 hall hR
    rw [fill_done hall]
    obtain ⟨q1, q2⟩ := hR.l0 (hall n (by omega))
    obtain ⟨q3, q4⟩ := hR.l1 (hall (n + 1) (by omega))
    rw [if_pos (hall (n + 2) (by omega))] at q2
    rw [if_pos (hall (n + 3) (by omega))] at q4
    exact hend g w1 hR.ext q1 q3 q2 q4 (hR.ne (hall n (by omega)) (hall (n + 1) (by omega)))
end
end Go.Proofs.YtcfebfblmmbeaaaDoor

/- Plain: repetitions struck from a list in order, in place. Rows of one's own, one element written. -/
namespace Go.Proofs.YtcfebfblmmbeaaaDoor
open Go Go.RowKit

section
variable {α : Type} {r : α → α → Bool}
def LeR (r : α → α → Bool) (l : List α) : Prop := l.Pairwise fun x y => r y x = false
theorem LeR.at_ {l : List α} (h : LeR r l) {i j : Nat} {x y : α} (hx : l[i]? = some x) (hy : l[j]? = some y) (hij : i < j) : r y x = false := by
  obtain ⟨h1, rfl⟩ := List.getElem?_eq_some_iff.1 hx
  obtain ⟨h2, rfl⟩ := List.getElem?_eq_some_iff.1 hy
  exact List.pairwise_iff_getElem.1 h i j h1 h2 hij
theorem Ord.lt (o : Ord r) {a b : α} (h : r b a = false) (hne : b ≠ a) : r a b = true := by
  cases k : r a b
  · exact absurd (o.tot h k) hne
  · rfl
theorem take_snocR {l : List α} {i : Nat} {p : α} (h : l[i]? = some p) : l.take (i + 1) = l.take i ++ [p] := by
  obtain ⟨hi, rfl⟩ := List.getElem?_eq_some_iff.1 h
  exact List.take_succ_eq_append_getElem hi
theorem Srt.last {l : List α} {i : Nat} {p q : α} (h : Srt r (l.take (i + 1))) (hp : l[i]? = some p) (hq : q ∈ l.take (i + 1)) : q = p ∨ r q p = true := by
  rw [take_snocR hp] at h hq
  rcases List.mem_append.1 hq with hq | hq
  · unfold Srt at h
    rw [List.pairwise_append] at h
    exact .inr (h.2.2 q hq p (by simp))
  · simp at hq; exact .inl hq
structure CMidR (r : α → α → Bool) (l ys : List α) (i j : Nat) : Prop where
  len : ys.length = l.length
  srt : Srt r (ys.take (i + 1))
  mem : ∀ q, q ∈ ys.take (i + 1) ↔ q ∈ l.take (j + 1)
  last : ys[i]? = l[j]?
  tail : ∀ m, j ≤ m → ys[m]? = l[m]?
  ij : i < j
  jn : j < l.length
theorem CMidR.start {l : List α} {k : Nat} {p : α} (hs : Srt r (l.take (k + 1))) (h1 : l[k]? = some p) (h2 : l[k + 1]? = some p) : CMidR r l l k (k + 1) where
  len := rfl
  srt := hs
  mem q := by
    rw [take_snocR h2, List.mem_append]
    constructor
    · exact .inl
    · rintro (h | h)
      · exact h
      · simp at h; subst h
        rw [take_snocR h1]; simp
  last := by rw [h1, h2]
  tail m _ := rfl
  ij := by omega
  jn := (List.getElem?_eq_some_iff.1 h2).1
theorem CMidR.skip {l ys : List α} {i j : Nat} {p : α} (h : CMidR r l ys i j) (h1 : l[j]? = some p) (h2 : l[j + 1]? = some p) : CMidR r l ys i (j + 1) where
  len := h.len
  srt := h.srt
  mem q := by
    rw [h.mem, take_snocR h2, List.mem_append]
    constructor
    · exact .inl
    · rintro (hq | hq)
      · exact hq
      · simp at hq; subst hq
        rw [take_snocR h1]; simp
  last := by rw [h.last, h1, h2]
  tail m hm := h.tail m (by omega)
  ij := by have := h.ij; omega
  jn := (List.getElem?_eq_some_iff.1 h2).1
theorem CMidR.put (o : Ord r) {l ys : List α} {i j : Nat} {p q : α} (h : CMidR r l ys i j) (hl : LeR r l) (h1 : l[j]? = some p) (h2 : l[j + 1]? = some q) (hne : q ≠ p) : CMidR r l (ys.set (i + 1) q) (i + 1) (j + 1) := by
  have hij := h.ij
  have hjn := h.jn
  have hlen := h.len
  have hb : r p q = true := o.lt (hl.at_ h1 h2 (by omega)) hne
  have hi : ys[i]? = some p := by rw [h.last, h1]
  have e : (ys.set (i + 1) q).take (i + 1 + 1) = ys.take (i + 1) ++ [q] := by
    rw [take_snocR (p := q) (by rw [List.getElem?_set_self (by omega)]), List.take_set_of_le (by omega)]
  refine ⟨by simpa using h.len, ?_, fun x => ?_, ?_, fun m hm => ?_, by omega, (List.getElem?_eq_some_iff.1 h2).1⟩
  · rw [e]
    exact h.srt.snoc fun x hx => by
      rcases h.srt.last hi hx with rfl | hx
      · exact hb
      · exact o.tr hx hb
  · rw [e, take_snocR h2, List.mem_append, List.mem_append, h.mem]
  · rw [List.getElem?_set_self (by omega), h2]
  · rw [List.getElem?_set_ne (by omega)]
    exact h.tail m (by omega)
theorem LeR.step (o : Ord r) {l : List α} {k : Nat} {p q : α} (hl : LeR r l) (hs : Srt r (l.take (k + 1))) (hp : l[k]? = some p) (hq : l[k + 1]? = some q) (hne : q ≠ p) : Srt r (l.take (k + 1 + 1)) := by
  rw [take_snocR hq]
  have hb : r p q = true := o.lt (hl.at_ hp hq (by omega)) hne
  exact hs.snoc fun x hx => by
    rcases hs.last hp hx with rfl | hx
    · exact hb
    · exact o.tr hx hb
theorem Srt.short {l : List α} (h : l.length < 2) : Srt r l := by
  match l, h with
  | [], _ => exact List.Pairwise.nil
  | [x], _ => exact List.pairwise_singleton ..
  | x :: y :: r, h => simp at h; omega
end
theorem rangeAt_ext {w w' : World} {b o : Nat} {cs : List Value} (h : w.rangeAt b o cs) (hb : b < w.heap.size) (hx : Ext w w') : w'.rangeAt b o cs := fun j v hv => (hx.cell (p := ⟨b, o + j, none⟩) hb).trans (h j v hv)
theorem own_setCells {base n c g k : Nat} {e : TypeId} : ∀ (vs : List Value) (o : Nat) (w : World) (xs : List Value), o + vs.length ≤ xs.length → w.ownsRow base e k (.slice (some ⟨g, 0, none⟩) n c) n xs → (w.setCells g o vs).ownsRow base e k (.slice (some ⟨g, 0, none⟩) n c) n (splice xs o vs) ∧ w.grownBy (w.setCells g o vs) (some g) ∧ (w.setCells g o vs).drawn = w.drawn
  | [], o, w, xs, _, h => by rw [splice_nil]; exact ⟨h, grown_refl _ _, rfl⟩
  | v :: vs, o, w, xs, hl, h => by
    simp only [List.length_cons] at hl
    have h1 := h.stored o v
    have h2 := own_setCells vs (o + 1) (w.setCell ⟨g, o, none⟩ v) (xs.set o v) (by rw [List.length_set]; omega) h1.1
    rw [splice_step _ _ _ _ (by omega)] at h2
    exact ⟨h2.1, grown_trans h1.2 h2.2.1, h2.2.2⟩
theorem own_there {w : World} {base n c g k : Nat} {e : TypeId} {zs : List Value} (h : w.ownsRow base e k (.slice (some ⟨g, 0, none⟩) n c) n zs) {o m : Nat} (hm : o + m ≤ n * k) : w.there g o m := fun j hj => by
  obtain ⟨v, hv⟩ := own_slot h (o + j) (by omega)
  exact ⟨by rw [hv]; rfl, h.frozenAt (o + j)⟩
theorem own_range {w : World} {base n c g k : Nat} {e : TypeId} {ys : List (List Value)} (h : w.ownsRow base e k (.slice (some ⟨g, 0, none⟩) n c) n ys.flatten) (hr : Rwk k ys) (hn : ys.length = n) {j : Nat} {x : List Value} (hx : ys[j]? = some x) : w.rangeAt g (j * k) x := by
  obtain ⟨b, off, e2, _, hh⟩ := (Sv.of_own h hr hn).row hx
  injection e2 with e2
  injection e2 with e3 e4
  subst e3 e4
  simpa using hh
end Go.Proofs.YtcfebfblmmbeaaaDoor
