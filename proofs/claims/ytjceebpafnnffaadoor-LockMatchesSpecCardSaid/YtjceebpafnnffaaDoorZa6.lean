/- Contract of the reference's layer of edits: Check; and that it is the program's. · Contract of the reference's Free. · Append onto a row of the call's own, the source any slice of rows: nil, empty or not. Cuts of such a slice. · Contract of the reference's Take: the first part. · Contract of slices.Insert of one use, on a row of the call's own. · Contract of slices.Insert of one use, on a row of the call's own: no room. And the three roads joined. · Contract of slices.Delete of one lock, on a row of the call's own. · Contract of slices.BinarySearchFunc at rows of 9 cells: Lk. -/
import Derived.Maps.AppendAt
import Derived.IntWalk
import Derived.Shelf.Spec.SlicesInsert
import Derived.Lib.AppendZerosOnto
import Derived.Deep.DeepAppendRoom
import Derived.Test.YtjceebpafnnffaaDoorZa5
namespace Go.Proofs.YtjceebpafnnffaaDoor
open Go Go.RowKit

def hiE (x : Ed) (s : Int) : Bool := decide (x.box.hi.x ≤ s) && (decide (x.box.hi.y ≤ s) && decide (x.box.hi.z ≤ s))
def boxE (x : Ed) (s : Int) : Bool := !emptyB x.box && (inP x.box.lo (cubeB s) && hiE x s)
def turnE (x : Ed) : Bool := decide (0 ≤ x.turn) && decide (x.turn < 48)
def cellE (x : Ed) (m : Int) : Bool := decide (0 ≤ x.cell) && decide (x.cell < m)
def okE (x : Ed) (s m : Int) : Bool :=
  if x.kind = 1 then boxE x s && cellE x m
  else if x.kind = 2 then inP x.at_ (cubeB s) && (cellE x m && (decide (1 ≤ x.size) && decide (x.size ≤ 4096)))
  else if x.kind = 3 then boxE x s && (turnE x && cellE x m)
  else if x.kind = 4 then boxE x s && (inP x.at_ (cubeB s) && turnE x)
  else if x.kind = 5 then inP x.at_ (cubeB s) && (cellE x m && (decide (1 ≤ x.size) && decide (x.size ≤ 32768)))
  else if x.kind = 7 then boxE x s && (decide (x.st.tick ≤ x.size) && decide (x.size ≤ 4000))
  else decide (1 ≤ x.size) && decide (x.size < x.st.seq)
def checkR (x : Ed) (d m : Int) : Int := if decide (2 ≤ d ∧ d ≤ 14) then (if decide (1 ≤ m ∧ m ≤ 256) && formedE x then (if okE x (2 ^ d.toNat) m then 0 else 1) else 1) else 13

set_option maxRecDepth 100000 in
set_option maxHeartbeats 4000000 in
theorem refCheck_depth (x : Ed) (d m : Int) (w : World) (h : ¬ (2 ≤ d ∧ d ≤ 14)) :
    Calls Tryd.prog 40 #[.agg #[.int .i64 x.st.tick, .int .i64 x.st.clock, .int .i64 x.st.site, .int .i64 x.st.seq, .int .i64 x.kind, .int .i64 x.box.lo.x, .int .i64 x.box.lo.y, .int .i64 x.box.lo.z, .int .i64 x.box.hi.x, .int .i64 x.box.hi.y, .int .i64 x.box.hi.z, .int .i64 x.at_.x, .int .i64 x.at_.y, .int .i64 x.at_.z, .int .i64 x.turn, .int .i64 x.cell, .int .i64 x.size], .int .i64 d, .int .i64 m] w fun e w' => e = .returned (.int .i64 13) ∧ Ext w w' := by
  go_enter Tryd.func40, Tryd.ntmps40
  by_cases h1 : d < 2
  · go_wp2
    go_ret
    exact ⟨rfl, (by repeat (first | with_reducible exact Ext.refl _ | with_reducible assumption | with_reducible refine Ext.alloc ?_ _ | with_reducible refine Ext.drew ?_ | (with_reducible refine Ext.setCell ?_ ?_ _; rotate_left; focus (first | (simp; done) | (simp; omega) | omega)) | (with_reducible refine Ext.setRow ?_ ?_ _; rotate_left; focus (first | (simp; done) | (simp; omega) | omega)) | with_reducible refine Ext.trans ?_ (by with_reducible assumption)))⟩
  · have h2 : 14 < d := by omega
    go_wp2
    go_ret
    exact ⟨rfl, (by repeat (first | with_reducible exact Ext.refl _ | with_reducible assumption | with_reducible refine Ext.alloc ?_ _ | with_reducible refine Ext.drew ?_ | (with_reducible refine Ext.setCell ?_ ?_ _; rotate_left; focus (first | (simp; done) | (simp; omega) | omega)) | (with_reducible refine Ext.setRow ?_ ?_ _; rotate_left; focus (first | (simp; done) | (simp; omega) | omega)) | with_reducible refine Ext.trans ?_ (by with_reducible assumption)))⟩
set_option maxRecDepth 100000 in
set_option maxHeartbeats 4000000 in
theorem refCheck_out (x : Ed) (d m : Int) (w : World) (hd : 2 ≤ d ∧ d ≤ 14) (h : ¬ (1 ≤ m ∧ m ≤ 256) ∨ formedE x = false) :
    Calls Tryd.prog 40 #[.agg #[.int .i64 x.st.tick, .int .i64 x.st.clock, .int .i64 x.st.site, .int .i64 x.st.seq, .int .i64 x.kind, .int .i64 x.box.lo.x, .int .i64 x.box.lo.y, .int .i64 x.box.lo.z, .int .i64 x.box.hi.x, .int .i64 x.box.hi.y, .int .i64 x.box.hi.z, .int .i64 x.at_.x, .int .i64 x.at_.y, .int .i64 x.at_.z, .int .i64 x.turn, .int .i64 x.cell, .int .i64 x.size], .int .i64 d, .int .i64 m] w fun e w' => e = .returned (.int .i64 1) ∧ Ext w w' := by
  have HF := Lib.hid (fun w' : World => refFormed_any x w')
  have d1 : ¬ d < 2 := by omega
  have d2 : ¬ 14 < d := by omega
  by_cases h1 : m < 1
  · clear h
    generalize formedE x = bf at HF
    go_enter Tryd.func40, Tryd.ntmps40
    go_upto_region 1 with fail
    obtain ⟨W0, hW⟩ : ∃ W, W = w.alloc (.cells #[.int .i64 x.st.tick, .int .i64 x.st.clock, .int .i64 x.st.site, .int .i64 x.st.seq, .int .i64 x.kind, .int .i64 x.box.lo.x, .int .i64 x.box.lo.y, .int .i64 x.box.lo.z, .int .i64 x.box.hi.x, .int .i64 x.box.hi.y, .int .i64 x.box.hi.z, .int .i64 x.at_.x, .int .i64 x.at_.y, .int .i64 x.at_.z, .int .i64 x.turn, .int .i64 x.cell, .int .i64 x.size] 30) := ⟨_, rfl⟩
    have hx0 : Ext w W0 := by rw [hW]; exact (Ext.refl w).alloc _
    have B0 : Arr W0 w.heap.size 30 [.int .i64 x.st.tick, .int .i64 x.st.clock, .int .i64 x.st.site, .int .i64 x.st.seq, .int .i64 x.kind, .int .i64 x.box.lo.x, .int .i64 x.box.lo.y, .int .i64 x.box.lo.z, .int .i64 x.box.hi.x, .int .i64 x.box.hi.y, .int .i64 x.box.hi.z, .int .i64 x.at_.x, .int .i64 x.at_.y, .int .i64 x.at_.z, .int .i64 x.turn, .int .i64 x.cell, .int .i64 x.size] := by rw [hW]; exact Arr.new w _ _
    rw [← hW]
    clear hW
    have cB0 := B0.cell
    have fB0 := B0.frozen
    have lB0 := B0.lt
    go_wp2_with (first | (refine wpList_load_blk 30 (.tmp 3) rfl rfl B0 rfl _ Tryd.underlying30 rfl (by kernel_rfl) ?_) | (refine wpList_load_blk 30 (.tmp 3) rfl rfl (B0.alloc _) rfl _ Tryd.underlying30 rfl (by kernel_rfl) ?_) | (refine wpList_load_blk 30 (.tmp 3) rfl rfl ((B0.alloc _).alloc _) rfl _ Tryd.underlying30 rfl (by kernel_rfl) ?_))
    ((refine (HF.out _).mono ?_); rintro e wx ⟨rfl, xx⟩; have xz := xx.size; (try simp only [World.size_alloc_, World.size_setCell_] at xz); have B0 := Arr.ext (w' := wx) B0 (by repeat (first | with_reducible exact Ext.refl _ | with_reducible assumption | with_reducible refine Ext.alloc ?_ _ | with_reducible refine Ext.drew ?_ | (with_reducible refine Ext.setCell ?_ ?_ _; rotate_left; focus (first | (simp; done) | (simp; omega) | omega)) | (with_reducible refine Ext.setRow ?_ ?_ _; rotate_left; focus (first | (simp; done) | (simp; omega) | omega)) | with_reducible refine Ext.trans ?_ (by with_reducible assumption))); have cB0 := B0.cell; have fB0 := B0.frozen; have lB0 := B0.lt)
    go_wp2
    go_ret
    exact ⟨rfl, (by repeat (first | with_reducible exact Ext.refl _ | with_reducible assumption | with_reducible refine Ext.alloc ?_ _ | with_reducible refine Ext.drew ?_ | (with_reducible refine Ext.setCell ?_ ?_ _; rotate_left; focus (first | (simp; done) | (simp; omega) | omega)) | (with_reducible refine Ext.setRow ?_ ?_ _; rotate_left; focus (first | (simp; done) | (simp; omega) | omega)) | with_reducible refine Ext.trans ?_ (by with_reducible assumption)))⟩
  · by_cases h2 : 256 < m
    · clear h
      generalize formedE x = bf at HF
      go_enter Tryd.func40, Tryd.ntmps40
      go_upto_region 1 with fail
      obtain ⟨W0, hW⟩ : ∃ W, W = w.alloc (.cells #[.int .i64 x.st.tick, .int .i64 x.st.clock, .int .i64 x.st.site, .int .i64 x.st.seq, .int .i64 x.kind, .int .i64 x.box.lo.x, .int .i64 x.box.lo.y, .int .i64 x.box.lo.z, .int .i64 x.box.hi.x, .int .i64 x.box.hi.y, .int .i64 x.box.hi.z, .int .i64 x.at_.x, .int .i64 x.at_.y, .int .i64 x.at_.z, .int .i64 x.turn, .int .i64 x.cell, .int .i64 x.size] 30) := ⟨_, rfl⟩
      have hx0 : Ext w W0 := by rw [hW]; exact (Ext.refl w).alloc _
      have B0 : Arr W0 w.heap.size 30 [.int .i64 x.st.tick, .int .i64 x.st.clock, .int .i64 x.st.site, .int .i64 x.st.seq, .int .i64 x.kind, .int .i64 x.box.lo.x, .int .i64 x.box.lo.y, .int .i64 x.box.lo.z, .int .i64 x.box.hi.x, .int .i64 x.box.hi.y, .int .i64 x.box.hi.z, .int .i64 x.at_.x, .int .i64 x.at_.y, .int .i64 x.at_.z, .int .i64 x.turn, .int .i64 x.cell, .int .i64 x.size] := by rw [hW]; exact Arr.new w _ _
      rw [← hW]
      clear hW
      have cB0 := B0.cell
      have fB0 := B0.frozen
      have lB0 := B0.lt
      go_wp2_with (first | (refine wpList_load_blk 30 (.tmp 3) rfl rfl B0 rfl _ Tryd.underlying30 rfl (by kernel_rfl) ?_) | (refine wpList_load_blk 30 (.tmp 3) rfl rfl (B0.alloc _) rfl _ Tryd.underlying30 rfl (by kernel_rfl) ?_) | (refine wpList_load_blk 30 (.tmp 3) rfl rfl ((B0.alloc _).alloc _) rfl _ Tryd.underlying30 rfl (by kernel_rfl) ?_))
      ((refine (HF.out _).mono ?_); rintro e wx ⟨rfl, xx⟩; have xz := xx.size; (try simp only [World.size_alloc_, World.size_setCell_] at xz); have B0 := Arr.ext (w' := wx) B0 (by repeat (first | with_reducible exact Ext.refl _ | with_reducible assumption | with_reducible refine Ext.alloc ?_ _ | with_reducible refine Ext.drew ?_ | (with_reducible refine Ext.setCell ?_ ?_ _; rotate_left; focus (first | (simp; done) | (simp; omega) | omega)) | (with_reducible refine Ext.setRow ?_ ?_ _; rotate_left; focus (first | (simp; done) | (simp; omega) | omega)) | with_reducible refine Ext.trans ?_ (by with_reducible assumption))); have cB0 := B0.cell; have fB0 := B0.frozen; have lB0 := B0.lt)
      go_wp2
      go_ret
      exact ⟨rfl, (by repeat (first | with_reducible exact Ext.refl _ | with_reducible assumption | with_reducible refine Ext.alloc ?_ _ | with_reducible refine Ext.drew ?_ | (with_reducible refine Ext.setCell ?_ ?_ _; rotate_left; focus (first | (simp; done) | (simp; omega) | omega)) | (with_reducible refine Ext.setRow ?_ ?_ _; rotate_left; focus (first | (simp; done) | (simp; omega) | omega)) | with_reducible refine Ext.trans ?_ (by with_reducible assumption)))⟩
    · have hf : formedE x = false := h.resolve_left (fun hh => hh ⟨by omega, by omega⟩)
      rw [hf] at HF
      clear h hf
      go_enter Tryd.func40, Tryd.ntmps40
      go_upto_region 1 with fail
      obtain ⟨W0, hW⟩ : ∃ W, W = w.alloc (.cells #[.int .i64 x.st.tick, .int .i64 x.st.clock, .int .i64 x.st.site, .int .i64 x.st.seq, .int .i64 x.kind, .int .i64 x.box.lo.x, .int .i64 x.box.lo.y, .int .i64 x.box.lo.z, .int .i64 x.box.hi.x, .int .i64 x.box.hi.y, .int .i64 x.box.hi.z, .int .i64 x.at_.x, .int .i64 x.at_.y, .int .i64 x.at_.z, .int .i64 x.turn, .int .i64 x.cell, .int .i64 x.size] 30) := ⟨_, rfl⟩
      have hx0 : Ext w W0 := by rw [hW]; exact (Ext.refl w).alloc _
      have B0 : Arr W0 w.heap.size 30 [.int .i64 x.st.tick, .int .i64 x.st.clock, .int .i64 x.st.site, .int .i64 x.st.seq, .int .i64 x.kind, .int .i64 x.box.lo.x, .int .i64 x.box.lo.y, .int .i64 x.box.lo.z, .int .i64 x.box.hi.x, .int .i64 x.box.hi.y, .int .i64 x.box.hi.z, .int .i64 x.at_.x, .int .i64 x.at_.y, .int .i64 x.at_.z, .int .i64 x.turn, .int .i64 x.cell, .int .i64 x.size] := by rw [hW]; exact Arr.new w _ _
      rw [← hW]
      clear hW
      have cB0 := B0.cell
      have fB0 := B0.frozen
      have lB0 := B0.lt
      go_wp2_with (first | (refine wpList_load_blk 30 (.tmp 3) rfl rfl B0 rfl _ Tryd.underlying30 rfl (by kernel_rfl) ?_) | (refine wpList_load_blk 30 (.tmp 3) rfl rfl (B0.alloc _) rfl _ Tryd.underlying30 rfl (by kernel_rfl) ?_) | (refine wpList_load_blk 30 (.tmp 3) rfl rfl ((B0.alloc _).alloc _) rfl _ Tryd.underlying30 rfl (by kernel_rfl) ?_))
      ((refine (HF.out _).mono ?_); rintro e wx ⟨rfl, xx⟩; have xz := xx.size; (try simp only [World.size_alloc_, World.size_setCell_] at xz); have B0 := Arr.ext (w' := wx) B0 (by repeat (first | with_reducible exact Ext.refl _ | with_reducible assumption | with_reducible refine Ext.alloc ?_ _ | with_reducible refine Ext.drew ?_ | (with_reducible refine Ext.setCell ?_ ?_ _; rotate_left; focus (first | (simp; done) | (simp; omega) | omega)) | (with_reducible refine Ext.setRow ?_ ?_ _; rotate_left; focus (first | (simp; done) | (simp; omega) | omega)) | with_reducible refine Ext.trans ?_ (by with_reducible assumption))); have cB0 := B0.cell; have fB0 := B0.frozen; have lB0 := B0.lt)
      go_wp2
      go_ret
      exact ⟨rfl, (by repeat (first | with_reducible exact Ext.refl _ | with_reducible assumption | with_reducible refine Ext.alloc ?_ _ | with_reducible refine Ext.drew ?_ | (with_reducible refine Ext.setCell ?_ ?_ _; rotate_left; focus (first | (simp; done) | (simp; omega) | omega)) | (with_reducible refine Ext.setRow ?_ ?_ _; rotate_left; focus (first | (simp; done) | (simp; omega) | omega)) | with_reducible refine Ext.trans ?_ (by with_reducible assumption)))⟩

theorem okE_def (x : Ed) (s m : Int) : okE x s m = (if x.kind = 1 then boxE x s && cellE x m
  else if x.kind = 2 then inP x.at_ (cubeB s) && (cellE x m && (decide (1 ≤ x.size) && decide (x.size ≤ 4096)))
  else if x.kind = 3 then boxE x s && (turnE x && cellE x m)
  else if x.kind = 4 then boxE x s && (inP x.at_ (cubeB s) && turnE x)
  else if x.kind = 5 then inP x.at_ (cubeB s) && (cellE x m && (decide (1 ≤ x.size) && decide (x.size ≤ 32768)))
  else if x.kind = 7 then boxE x s && (decide (x.st.tick ≤ x.size) && decide (x.size ≤ 4000))
  else decide (1 ≤ x.size) && decide (x.size < x.st.seq)) := rfl
set_option maxRecDepth 100000 in
set_option maxHeartbeats 16000000 in
theorem refCheck_in (x : Ed) (d m : Int) (w : World) (hd : 2 ≤ d ∧ d ≤ 14) (hm : 1 ≤ m ∧ m ≤ 256) (hf : formedE x = true) (hkk : x.kind = 1 ∨ x.kind = 2 ∨ x.kind = 3 ∨ x.kind = 4 ∨ x.kind = 5 ∨ x.kind = 6 ∨ x.kind = 7 ∨ x.kind = 8) :
    Calls Tryd.prog 40 #[.agg #[.int .i64 x.st.tick, .int .i64 x.st.clock, .int .i64 x.st.site, .int .i64 x.st.seq, .int .i64 x.kind, .int .i64 x.box.lo.x, .int .i64 x.box.lo.y, .int .i64 x.box.lo.z, .int .i64 x.box.hi.x, .int .i64 x.box.hi.y, .int .i64 x.box.hi.z, .int .i64 x.at_.x, .int .i64 x.at_.y, .int .i64 x.at_.z, .int .i64 x.turn, .int .i64 x.cell, .int .i64 x.size], .int .i64 d, .int .i64 m] w fun e w' => e = .returned (.int .i64 (if okE x (2 ^ d.toNat) m then 0 else 1)) ∧ Ext w w' := by
  have HF := Lib.hid (fun w' : World => hf ▸ refFormed_any x w')
  have HQ := Lib.hid (fun w' : World => refcube_any d hd w')
  have hok := okE_def x (2 ^ d.toNat) m
  generalize (2 : Int) ^ d.toNat = S at HQ hok ⊢
  have HE := Lib.hid (fun w' : World => refEmpty_any x.box w')
  have HL := Lib.hid (fun w' : World => refIn_any x.box.lo (cubeB S) w')
  have HA := Lib.hid (fun w' : World => refIn_any x.at_ (cubeB S) w')
  have HB1 := Lib.hid (show boxE x S = (!emptyB x.box && (inP x.box.lo (cubeB S) && hiE x S)) from rfl)
  have HH := Lib.hid (show hiE x S = (decide (x.box.hi.x ≤ S) && (decide (x.box.hi.y ≤ S) && decide (x.box.hi.z ≤ S))) from rfl)
  have HT := Lib.hid (show turnE x = (decide (0 ≤ x.turn) && decide (x.turn < 48)) from rfl)
  have HC := Lib.hid (show cellE x m = (decide (0 ≤ x.cell) && decide (x.cell < m)) from rfl)
  obtain ⟨R, hR⟩ : ∃ R : Int, R = (if okE x S m then 0 else 1) := ⟨_, rfl⟩
  rw [← hR]
  rw [hok] at hR
  clear hok
  generalize emptyB x.box = be at HE HB1
  generalize inP x.box.lo (cubeB S) = bl at HL HB1
  generalize inP x.at_ (cubeB S) = ba at HA hR
  generalize hiE x S = bh at HB1 HH
  generalize boxE x S = bx at HB1 hR
  generalize turnE x = bt at HT hR
  generalize cellE x m = bc at HC hR
  have HR := Lib.hid hR
  have HKK := Lib.hid hkk
  have d1 : ¬ d < 2 := by omega
  have d2 : ¬ 14 < d := by omega
  have m1 : ¬ m < 1 := by omega
  have m2 : ¬ 256 < m := by omega
  clear hd hm hf hR hkk
  simp only [cubeB] at HQ HL HA
  go_enter Tryd.func40, Tryd.ntmps40
  go_upto_region 1 with fail
  obtain ⟨W0, hW⟩ : ∃ W, W = w.alloc (.cells #[.int .i64 x.st.tick, .int .i64 x.st.clock, .int .i64 x.st.site, .int .i64 x.st.seq, .int .i64 x.kind, .int .i64 x.box.lo.x, .int .i64 x.box.lo.y, .int .i64 x.box.lo.z, .int .i64 x.box.hi.x, .int .i64 x.box.hi.y, .int .i64 x.box.hi.z, .int .i64 x.at_.x, .int .i64 x.at_.y, .int .i64 x.at_.z, .int .i64 x.turn, .int .i64 x.cell, .int .i64 x.size] 30) := ⟨_, rfl⟩
  have hx0 : Ext w W0 := by rw [hW]; exact (Ext.refl w).alloc _
  have B0 : Arr W0 w.heap.size 30 [.int .i64 x.st.tick, .int .i64 x.st.clock, .int .i64 x.st.site, .int .i64 x.st.seq, .int .i64 x.kind, .int .i64 x.box.lo.x, .int .i64 x.box.lo.y, .int .i64 x.box.lo.z, .int .i64 x.box.hi.x, .int .i64 x.box.hi.y, .int .i64 x.box.hi.z, .int .i64 x.at_.x, .int .i64 x.at_.y, .int .i64 x.at_.z, .int .i64 x.turn, .int .i64 x.cell, .int .i64 x.size] := by rw [hW]; exact Arr.new w _ _
  rw [← hW]
  clear hW
  have cB0 := B0.cell
  have fB0 := B0.frozen
  have lB0 := B0.lt
  generalize (.agg #[.int .i64 x.st.tick, .int .i64 x.st.clock, .int .i64 x.st.site, .int .i64 x.st.seq, .int .i64 x.kind, .int .i64 x.box.lo.x, .int .i64 x.box.lo.y, .int .i64 x.box.lo.z, .int .i64 x.box.hi.x, .int .i64 x.box.hi.y, .int .i64 x.box.hi.z, .int .i64 x.at_.x, .int .i64 x.at_.y, .int .i64 x.at_.z, .int .i64 x.turn, .int .i64 x.cell, .int .i64 x.size] : Value) = V0
  go_wp2_with (first | (refine wpList_load_blk 30 (.tmp 3) rfl rfl B0 rfl _ Tryd.underlying30 rfl (by kernel_rfl) ?_) | (refine wpList_load_blk 30 (.tmp 3) rfl rfl (B0.alloc _) rfl _ Tryd.underlying30 rfl (by kernel_rfl) ?_) | (refine wpList_load_blk 30 (.tmp 3) rfl rfl ((B0.alloc _).alloc _) rfl _ Tryd.underlying30 rfl (by kernel_rfl) ?_))
  ((refine (HF.out _).mono ?_); rintro e wx ⟨rfl, xx⟩; have xz := xx.size; (try simp only [World.size_alloc_, World.size_setCell_] at xz); have B0 := Arr.ext (w' := wx) B0 (by repeat (first | with_reducible exact Ext.refl _ | with_reducible assumption | with_reducible refine Ext.alloc ?_ _ | with_reducible refine Ext.drew ?_ | (with_reducible refine Ext.setCell ?_ ?_ _; rotate_left; focus (first | (simp; done) | (simp; omega) | omega)) | (with_reducible refine Ext.setRow ?_ ?_ _; rotate_left; focus (first | (simp; done) | (simp; omega) | omega)) | with_reducible refine Ext.trans ?_ (by with_reducible assumption))); have cB0 := B0.cell; have fB0 := B0.frozen; have lB0 := B0.lt)
  go_wp2_with fail
  ((refine (HQ.out _).mono ?_); rintro e wa ⟨rfl, xx⟩; have xz := xx.size; (try simp only [World.size_alloc_, World.size_setCell_] at xz); have B0 := Arr.ext (w' := wa) B0 (by repeat (first | with_reducible exact Ext.refl _ | with_reducible assumption | with_reducible refine Ext.alloc ?_ _ | with_reducible refine Ext.drew ?_ | (with_reducible refine Ext.setCell ?_ ?_ _; rotate_left; focus (first | (simp; done) | (simp; omega) | omega)) | (with_reducible refine Ext.setRow ?_ ?_ _; rotate_left; focus (first | (simp; done) | (simp; omega) | omega)) | with_reducible refine Ext.trans ?_ (by with_reducible assumption))); have cB0 := B0.cell; have fB0 := B0.frozen; have lB0 := B0.lt)
  go_wp2_with (first | (refine wpList_load_part 28 (.tmp 38) rfl rfl B0 5 [.int .i64 x.box.lo.x, .int .i64 x.box.lo.y, .int .i64 x.box.lo.z, .int .i64 x.box.hi.x, .int .i64 x.box.hi.y, .int .i64 x.box.hi.z] rfl rfl _ Tryd.underlying28 rfl (by kernel_rfl) ?_) | (refine wpList_load_part 28 (.tmp 38) rfl rfl (B0.alloc _) 5 [.int .i64 x.box.lo.x, .int .i64 x.box.lo.y, .int .i64 x.box.lo.z, .int .i64 x.box.hi.x, .int .i64 x.box.hi.y, .int .i64 x.box.hi.z] rfl rfl _ Tryd.underlying28 rfl (by kernel_rfl) ?_))
  ((refine (HE.out _).mono ?_); rintro e wx ⟨rfl, xx⟩; have xz := xx.size; (try simp only [World.size_alloc_] at xz); have B0 := Arr.ext (w' := wx) B0 (by repeat (first | with_reducible exact Ext.refl _ | with_reducible assumption | with_reducible refine Ext.alloc ?_ _ | with_reducible refine Ext.drew ?_ | (with_reducible refine Ext.setCell ?_ ?_ _; rotate_left; focus (first | (simp; done) | (simp; omega) | omega)) | (with_reducible refine Ext.setRow ?_ ?_ _; rotate_left; focus (first | (simp; done) | (simp; omega) | omega)) | with_reducible refine Ext.trans ?_ (by with_reducible assumption))); have cB0 := B0.cell; have fB0 := B0.frozen; have lB0 := B0.lt)
  have B1 := (Arr.new wa 28 [.int .i64 0, .int .i64 0, .int .i64 0, .int .i64 S, .int .i64 S, .int .i64 S]).ext xx
  have cB1 := B1.cell
  have fB1 := B1.frozen
  have lB1 := B1.lt
  go_wp2_with (first | (refine wpList_load_part 26 (.tmp 42) rfl rfl B0 5 [.int .i64 x.box.lo.x, .int .i64 x.box.lo.y, .int .i64 x.box.lo.z] rfl rfl _ Tryd.underlying26 rfl (by kernel_rfl) ?_) | (refine wpList_load_part 26 (.tmp 42) rfl rfl (B0.alloc _) 5 [.int .i64 x.box.lo.x, .int .i64 x.box.lo.y, .int .i64 x.box.lo.z] rfl rfl _ Tryd.underlying26 rfl (by kernel_rfl) ?_) | (refine wpList_load_blk 28 (.tmp 8) rfl rfl B1 rfl _ Tryd.underlying28 rfl (by kernel_rfl) ?_) | (refine wpList_load_blk 28 (.tmp 8) rfl rfl (B1.alloc _) rfl _ Tryd.underlying28 rfl (by kernel_rfl) ?_) | (refine wpList_load_blk 28 (.tmp 8) rfl rfl ((B1.alloc _).alloc _) rfl _ Tryd.underlying28 rfl (by kernel_rfl) ?_))
  ((refine (HL.out _).mono ?_); rintro e wi ⟨rfl, xx⟩; have xz := xx.size; (try simp only [World.size_alloc_, World.size_setCell_] at xz); have B0 := Arr.ext (w' := wi) B0 (by repeat (first | with_reducible exact Ext.refl _ | with_reducible assumption | with_reducible refine Ext.alloc ?_ _ | with_reducible refine Ext.drew ?_ | (with_reducible refine Ext.setCell ?_ ?_ _; rotate_left; focus (first | (simp; done) | (simp; omega) | omega)) | (with_reducible refine Ext.setRow ?_ ?_ _; rotate_left; focus (first | (simp; done) | (simp; omega) | omega)) | with_reducible refine Ext.trans ?_ (by with_reducible assumption))); have cB0 := B0.cell; have fB0 := B0.frozen; have lB0 := B0.lt; have B1 := Arr.ext (w' := wi) B1 (by repeat (first | with_reducible exact Ext.refl _ | with_reducible assumption | with_reducible refine Ext.alloc ?_ _ | with_reducible refine Ext.drew ?_ | (with_reducible refine Ext.setCell ?_ ?_ _; rotate_left; focus (first | (simp; done) | (simp; omega) | omega)) | (with_reducible refine Ext.setRow ?_ ?_ _; rotate_left; focus (first | (simp; done) | (simp; omega) | omega)) | with_reducible refine Ext.trans ?_ (by with_reducible assumption))); have cB1 := B1.cell; have fB1 := B1.frozen; have lB1 := B1.lt)
  go_upto_region 10 with (first | (refine wpList_load_part 26 (.tmp 47) rfl rfl B0 8 [.int .i64 x.box.hi.x, .int .i64 x.box.hi.y, .int .i64 x.box.hi.z] rfl rfl _ Tryd.underlying26 rfl (by kernel_rfl) ?_) | (refine wpList_load_part 26 (.tmp 47) rfl rfl (B0.alloc _) 8 [.int .i64 x.box.hi.x, .int .i64 x.box.hi.y, .int .i64 x.box.hi.z] rfl rfl _ Tryd.underlying26 rfl (by kernel_rfl) ?_))
  have hx1 : Ext w wi := (by repeat (first | with_reducible exact Ext.refl _ | with_reducible assumption | with_reducible refine Ext.alloc ?_ _ | with_reducible refine Ext.drew ?_ | (with_reducible refine Ext.setCell ?_ ?_ _; rotate_left; focus (first | (simp; done) | (simp; omega) | omega)) | (with_reducible refine Ext.setRow ?_ ?_ _; rotate_left; focus (first | (simp; done) | (simp; omega) | omega)) | with_reducible refine Ext.trans ?_ (by with_reducible assumption)))
  obtain ⟨W1, hW1⟩ : ∃ W, W = wi.alloc (.cells #[.int .i64 x.box.hi.x, .int .i64 x.box.hi.y, .int .i64 x.box.hi.z] 26) := ⟨_, rfl⟩
  have hx2 : Ext w W1 := by rw [hW1]; exact hx1.alloc _
  have B2 : Arr W1 wi.heap.size 26 [.int .i64 x.box.hi.x, .int .i64 x.box.hi.y, .int .i64 x.box.hi.z] := by rw [hW1]; exact Arr.new wi _ _
  have B0 : Arr W1 _ _ _ := hW1 ▸ B0.alloc _
  have B1 : Arr W1 _ _ _ := hW1 ▸ B1.alloc _
  rw [← hW1]
  have cB0 := B0.cell
  have cB1 := B1.cell
  have cB2 := B2.cell
  clear hW1
  go_cut [12] (fun v wc => v = .bool bh ∧ wc = W1)
  case first =>
    go_wp2
    all_goals
      go_meet
      case rel => exact ⟨by rw [HH.out]; first | (simp [*]; done) | (simp [*]; omega), rfl⟩
  case rest =>
  obtain ⟨rfl, hwc⟩ := hcut
  obtain rfl := hwc.symm
  go_upto_region 11 with fail
  go_cut [9, 10, 12, 13] (fun _ _ _ v wc => v = .bool bx ∧ wc = W1)
  case first =>
    go_wp2
    all_goals
      go_meet
      case rel => exact ⟨by rw [HB1.out]; first | (simp [*]; done) | (simp [*]; omega), rfl⟩
  case rest =>
  obtain ⟨rfl, hwc⟩ := hcut
  obtain rfl := hwc.symm
  go_wp2_with (first | (refine wpList_load_part 26 (.tmp 79) rfl rfl B0 11 [.int .i64 x.at_.x, .int .i64 x.at_.y, .int .i64 x.at_.z] rfl rfl _ Tryd.underlying26 rfl (by kernel_rfl) ?_) | (refine wpList_load_part 26 (.tmp 79) rfl rfl (B0.alloc _) 11 [.int .i64 x.at_.x, .int .i64 x.at_.y, .int .i64 x.at_.z] rfl rfl _ Tryd.underlying26 rfl (by kernel_rfl) ?_) | (refine wpList_load_blk 28 (.tmp 8) rfl rfl B1 rfl _ Tryd.underlying28 rfl (by kernel_rfl) ?_) | (refine wpList_load_blk 28 (.tmp 8) rfl rfl (B1.alloc _) rfl _ Tryd.underlying28 rfl (by kernel_rfl) ?_) | (refine wpList_load_blk 28 (.tmp 8) rfl rfl ((B1.alloc _).alloc _) rfl _ Tryd.underlying28 rfl (by kernel_rfl) ?_))
  ((refine (HA.out _).mono ?_); rintro e W2 ⟨rfl, xx⟩; have xz := xx.size; (try simp only [World.size_alloc_, World.size_setCell_] at xz); have B0 := Arr.ext (w' := W2) B0 (by repeat (first | with_reducible exact Ext.refl _ | with_reducible assumption | with_reducible refine Ext.alloc ?_ _ | with_reducible refine Ext.drew ?_ | (with_reducible refine Ext.setCell ?_ ?_ _; rotate_left; focus (first | (simp; done) | (simp; omega) | omega)) | (with_reducible refine Ext.setRow ?_ ?_ _; rotate_left; focus (first | (simp; done) | (simp; omega) | omega)) | with_reducible refine Ext.trans ?_ (by with_reducible assumption))); have cB0 := B0.cell; have fB0 := B0.frozen; have lB0 := B0.lt)
  have hx3 : Ext w W2 := hx2.trans xx
  go_upto_region 13 with fail
  go_cut [15] (fun v wc => v = .bool bt ∧ wc = W2)
  case first =>
    go_wp2
    all_goals
      go_meet
      case rel => exact ⟨by rw [HT.out]; first | (simp [*]; done) | (simp [*]; omega), rfl⟩
  case rest =>
  obtain ⟨rfl, hwc⟩ := hcut
  obtain rfl := hwc.symm
  go_upto_region 14 with fail
  go_cut [16] (fun v wc => v = .bool bc ∧ wc = W2)
  case first =>
    go_wp2
    all_goals
      go_meet
      case rel => exact ⟨by rw [HC.out]; first | (simp [*]; done) | (simp [*]; omega), rfl⟩
  case rest =>
  obtain ⟨rfl, hwc⟩ := hcut
  obtain rfl := hwc.symm
  clear xx hx1 hx2
  rcases HKK.out with hk | hk | hk | hk | hk | hk | hk | hk
  all_goals
    have hr := HR.out
    simp [hk] at hr
    have HR2 := Lib.hid hr
    clear hr
    go_wp2
    all_goals
      go_ret
      refine ⟨ret_int ?_, hx3⟩
      rw [HR2.out]
      clear hk lB0 lB1 cB0 cB1 cB2 fB0 fB1 d1 d2 m1 m2
      first | rfl | (simp [*]; done) | (split <;> first | rfl | (exfalso; simp_all; done) | (exfalso; simp_all; omega))

theorem refCheck_any (x : Ed) (d m : Int) (w : World) :
    Calls Tryd.prog 40 #[.agg #[.int .i64 x.st.tick, .int .i64 x.st.clock, .int .i64 x.st.site, .int .i64 x.st.seq, .int .i64 x.kind, .int .i64 x.box.lo.x, .int .i64 x.box.lo.y, .int .i64 x.box.lo.z, .int .i64 x.box.hi.x, .int .i64 x.box.hi.y, .int .i64 x.box.hi.z, .int .i64 x.at_.x, .int .i64 x.at_.y, .int .i64 x.at_.z, .int .i64 x.turn, .int .i64 x.cell, .int .i64 x.size], .int .i64 d, .int .i64 m] w fun e w' => e = .returned (.int .i64 (checkR x d m)) ∧ Ext w w' := by
  by_cases hd : 2 ≤ d ∧ d ≤ 14
  · by_cases h : ¬ (1 ≤ m ∧ m ≤ 256) ∨ formedE x = false
    · have e : checkR x d m = 1 := by
        unfold checkR
        rw [decide_eq_true hd]
        rcases h with h | h
        · rw [decide_eq_false h]; rfl
        · rw [h]; simp
      rw [e]
      exact refCheck_out x d m w hd h
    · have hm : 1 ≤ m ∧ m ≤ 256 := Classical.byContradiction fun hh => h (.inl hh)
      have hf : formedE x = true := by
        cases hq : formedE x
        · exact absurd (.inr hq) h
        · rfl
      have hk : 1 ≤ x.kind ∧ x.kind ≤ 8 := by
        have h := formedE_def x
        rw [hf] at h
        cases hq : decide (1 ≤ x.kind ∧ x.kind ≤ 8)
        · rw [hq] at h; simp at h
        · exact of_decide_eq_true hq
      have e : checkR x d m = if okE x (2 ^ d.toNat) m then 0 else 1 := by
        unfold checkR
        rw [decide_eq_true hd, decide_eq_true hm, hf]
        rfl
      rw [e]
      exact refCheck_in x d m w hd hm hf (by omega)
  · have e : checkR x d m = 13 := by unfold checkR; rw [decide_eq_false hd]; rfl
    rw [e]
    exact refCheck_depth x d m w hd
end Go.Proofs.YtjceebpafnnffaaDoor

namespace Go.Proofs.YtjceebpafnnffaaDoor
open Go Go.RowKit

/-- It hands back a table of its own and an error code. -/
def RetT (ls : List Lk) (er : Int) (w : World) (en : Ending) (w' : World) : Prop :=
  ∃ A c, en = .returned (.tuple #[.slice A ls.length c, .int .i64 er]) ∧ w'.ownsRow w.heap.size 52 9 (.slice A ls.length c) (rowsL ls).length (rowsL ls).flatten ∧ Ext w w'
theorem RetT.none_ {w w' : World} (er : Int) (hx : Ext w w') : RetT [] er w (.returned (.tuple #[.slice none 0 0, .int .i64 er])) w' := ⟨none, 0, rfl, World.ownsRow_nil _ _ _ _, hx⟩
theorem own_mono {w : World} {b b' k n : Nat} {e : TypeId} {v : Value} {zs : List Value} (h : w.ownsRow b e k v n zs) (hb : b' ≤ b) : w.ownsRow b' e k v n zs := by
  refine ⟨h.1, ?_⟩
  rcases h.2 with h1 | ⟨g, cap, cur, hv, hg, h2⟩
  · exact .inl h1
  · exact .inr ⟨g, cap, cur, hv, by omega, h2⟩
theorem Ext.range {w w' : World} {b o : Nat} {cs : List Value} (hx : Ext w w') (hb : b < w.heap.size) (h : w.rangeAt b o cs) : w'.rangeAt b o cs := fun j v hv => (hx.cell (p := ⟨b, o + j, none⟩) hb).trans (h j v hv)
def isR (x : Ed) (k : Int) : Bool := decide (x.kind = k) && decide (checkR x 14 1 = 0)
def keepF (x : Ed) (y : Lk) : Bool := decide (y.site ≠ x.st.site) || decide (y.seq ≠ x.size)
def freeR (ls : List Lk) (x : Ed) : List Lk × Int :=
  if isR x 8 then (if ((ls.filter (livesL x.st.tick)).filter (keepF x)).length = (ls.filter (livesL x.st.tick)).length then ([], 9) else ((ls.filter (livesL x.st.tick)).filter (keepF x), 0)) else ([], 1)

set_option maxRecDepth 100000 in
set_option maxHeartbeats 4000000 in
theorem refFree_bad (A : Option Addr) (c : Nat) (ls : List Lk) (x : Ed) (w : World) (h : isR x 8 = false) :
    Calls Tryd.prog 14 #[.slice A ls.length c, .agg #[.int .i64 x.st.tick, .int .i64 x.st.clock, .int .i64 x.st.site, .int .i64 x.st.seq, .int .i64 x.kind, .int .i64 x.box.lo.x, .int .i64 x.box.lo.y, .int .i64 x.box.lo.z, .int .i64 x.box.hi.x, .int .i64 x.box.hi.y, .int .i64 x.box.hi.z, .int .i64 x.at_.x, .int .i64 x.at_.y, .int .i64 x.at_.z, .int .i64 x.turn, .int .i64 x.cell, .int .i64 x.size]] w (RetT [] 1 w) := by
  have HC := Lib.hid (fun w' : World => refCheck_any x 14 1 w')
  by_cases hk : x.kind = 8
  · have hb : (x.kind != 8) = false := by simp [hk]
    have hc : checkR x 14 1 ≠ 0 := by intro hh; unfold isR at h; simp [hk, hh] at h
    generalize checkR x 14 1 = ce at HC hc
    have hb2 : (ce != 0) = true := by simpa using hc
    clear hk hc h
    go_enter Tryd.func14, Tryd.ntmps14
    go_upto_region 1 with fail
    obtain ⟨W0, hW⟩ : ∃ W, W = w.alloc (.cells #[.int .i64 x.st.tick, .int .i64 x.st.clock, .int .i64 x.st.site, .int .i64 x.st.seq, .int .i64 x.kind, .int .i64 x.box.lo.x, .int .i64 x.box.lo.y, .int .i64 x.box.lo.z, .int .i64 x.box.hi.x, .int .i64 x.box.hi.y, .int .i64 x.box.hi.z, .int .i64 x.at_.x, .int .i64 x.at_.y, .int .i64 x.at_.z, .int .i64 x.turn, .int .i64 x.cell, .int .i64 x.size] 30) := ⟨_, rfl⟩
    have hx0 : Ext w W0 := by rw [hW]; exact (Ext.refl w).alloc _
    have B0 : Arr W0 w.heap.size 30 [.int .i64 x.st.tick, .int .i64 x.st.clock, .int .i64 x.st.site, .int .i64 x.st.seq, .int .i64 x.kind, .int .i64 x.box.lo.x, .int .i64 x.box.lo.y, .int .i64 x.box.lo.z, .int .i64 x.box.hi.x, .int .i64 x.box.hi.y, .int .i64 x.box.hi.z, .int .i64 x.at_.x, .int .i64 x.at_.y, .int .i64 x.at_.z, .int .i64 x.turn, .int .i64 x.cell, .int .i64 x.size] := by rw [hW]; exact Arr.new w _ _
    rw [← hW]
    clear hW
    have cB0 := B0.cell
    have fB0 := B0.frozen
    have lB0 := B0.lt
    go_wp2_with (first | (refine wpList_load_blk 30 (.tmp 3) rfl rfl B0 rfl _ Tryd.underlying30 rfl (by kernel_rfl) ?_) | (refine wpList_load_blk 30 (.tmp 3) rfl rfl (B0.alloc _) rfl _ Tryd.underlying30 rfl (by kernel_rfl) ?_) | (refine wpList_load_blk 30 (.tmp 3) rfl rfl ((B0.alloc _).alloc _) rfl _ Tryd.underlying30 rfl (by kernel_rfl) ?_))
    ((refine (HC.out _).mono ?_); rintro e wx ⟨rfl, xx⟩; have xz := xx.size; (try simp only [World.size_alloc_, World.size_setCell_] at xz); have B0 := Arr.ext (w' := wx) B0 (by repeat (first | with_reducible exact Ext.refl _ | with_reducible assumption | with_reducible refine Ext.alloc ?_ _ | with_reducible refine Ext.drew ?_ | (with_reducible refine Ext.setCell ?_ ?_ _; rotate_left; focus (first | (simp; done) | (simp; omega) | omega)) | (with_reducible refine Ext.setRow ?_ ?_ _; rotate_left; focus (first | (simp; done) | (simp; omega) | omega)) | with_reducible refine Ext.trans ?_ (by with_reducible assumption))); have cB0 := B0.cell; have fB0 := B0.frozen; have lB0 := B0.lt)
    go_wp2
    go_ret2
    exact RetT.none_ 1 (by repeat (first | with_reducible exact Ext.refl _ | with_reducible assumption | with_reducible refine Ext.alloc ?_ _ | with_reducible refine Ext.drew ?_ | (with_reducible refine Ext.setCell ?_ ?_ _; rotate_left; focus (first | (simp; done) | (simp; omega) | omega)) | (with_reducible refine Ext.setRow ?_ ?_ _; rotate_left; focus (first | (simp; done) | (simp; omega) | omega)) | with_reducible refine Ext.trans ?_ (by with_reducible assumption)))
  · have hb : (x.kind != 8) = true := by simpa using hk
    clear hk h HC
    go_enter Tryd.func14, Tryd.ntmps14
    go_upto_region 1 with fail
    obtain ⟨W0, hW⟩ : ∃ W, W = w.alloc (.cells #[.int .i64 x.st.tick, .int .i64 x.st.clock, .int .i64 x.st.site, .int .i64 x.st.seq, .int .i64 x.kind, .int .i64 x.box.lo.x, .int .i64 x.box.lo.y, .int .i64 x.box.lo.z, .int .i64 x.box.hi.x, .int .i64 x.box.hi.y, .int .i64 x.box.hi.z, .int .i64 x.at_.x, .int .i64 x.at_.y, .int .i64 x.at_.z, .int .i64 x.turn, .int .i64 x.cell, .int .i64 x.size] 30) := ⟨_, rfl⟩
    have hx0 : Ext w W0 := by rw [hW]; exact (Ext.refl w).alloc _
    have B0 : Arr W0 w.heap.size 30 [.int .i64 x.st.tick, .int .i64 x.st.clock, .int .i64 x.st.site, .int .i64 x.st.seq, .int .i64 x.kind, .int .i64 x.box.lo.x, .int .i64 x.box.lo.y, .int .i64 x.box.lo.z, .int .i64 x.box.hi.x, .int .i64 x.box.hi.y, .int .i64 x.box.hi.z, .int .i64 x.at_.x, .int .i64 x.at_.y, .int .i64 x.at_.z, .int .i64 x.turn, .int .i64 x.cell, .int .i64 x.size] := by rw [hW]; exact Arr.new w _ _
    rw [← hW]
    clear hW
    have cB0 := B0.cell
    have fB0 := B0.frozen
    have lB0 := B0.lt
    go_wp2
    go_ret2
    exact RetT.none_ 1 (by repeat (first | with_reducible exact Ext.refl _ | with_reducible assumption | with_reducible refine Ext.alloc ?_ _ | with_reducible refine Ext.drew ?_ | (with_reducible refine Ext.setCell ?_ ?_ _; rotate_left; focus (first | (simp; done) | (simp; omega) | omega)) | (with_reducible refine Ext.setRow ?_ ?_ _; rotate_left; focus (first | (simp; done) | (simp; omega) | omega)) | with_reducible refine Ext.trans ?_ (by with_reducible assumption)))
set_option maxRecDepth 100000 in
set_option maxHeartbeats 8000000 in
theorem refFree_ok (A : Option Addr) (c : Nat) (ls : List Lk) (x : Ed) (w : World) (hs : Sv w w.heap.size 9 A c (rowsL ls)) (hb : ls.length ≤ 1000000) (h : isR x 8 = true) :
    Calls Tryd.prog 14 #[.slice A ls.length c, .agg #[.int .i64 x.st.tick, .int .i64 x.st.clock, .int .i64 x.st.site, .int .i64 x.st.seq, .int .i64 x.kind, .int .i64 x.box.lo.x, .int .i64 x.box.lo.y, .int .i64 x.box.lo.z, .int .i64 x.box.hi.x, .int .i64 x.box.hi.y, .int .i64 x.box.hi.z, .int .i64 x.at_.x, .int .i64 x.at_.y, .int .i64 x.at_.z, .int .i64 x.turn, .int .i64 x.cell, .int .i64 x.size]] w (RetT (freeR ls x).1 (freeR ls x).2 w) := by
  have hm := mixed
  have hG := near_old
  have HF := Lib.hid (show freeR ls x = if ((ls.filter (livesL x.st.tick)).filter (keepF x)).length = (ls.filter (livesL x.st.tick)).length then ([], 9) else ((ls.filter (livesL x.st.tick)).filter (keepF x), 0) from by unfold freeR; rw [h]; rfl)
  have HE := Lib.hid (fun (w' : World) (hx : Ext w w') => refExpire_any A c ls w' (hs.ext hx) hb x.st.tick)
  have hfl := filter_len (livesL x.st.tick) ls
  generalize ls.filter (livesL x.st.tick) = lv at HF HE hfl
  obtain ⟨R, hR⟩ : ∃ R, R = freeR ls x := ⟨_, rfl⟩
  rw [← hR]
  have HR := Lib.hid (hR.trans HF.out)
  unfold isR at h
  simp only [Bool.and_eq_true, decide_eq_true_eq] at h
  have hk : (x.kind != 8) = false := by simp [h.1]
  have HC := Lib.hid (fun w' : World => h.2 ▸ refCheck_any x 14 1 w')
  obtain ⟨i0, hi, hz0, hz1, hz2⟩ := info_parts infoLk
  have HI := Lib.hid hi; have HZ := Lib.hid hz0; have HZ1 := Lib.hid hz1; have HZ2 := Lib.hid hz2; clear hi hz0 hz1 hz2
  clear hR HF h hs
  go_enter Tryd.func14, Tryd.ntmps14
  go_upto_region 1 with fail
  obtain ⟨W0, hW⟩ : ∃ W, W = w.alloc (.cells #[.int .i64 x.st.tick, .int .i64 x.st.clock, .int .i64 x.st.site, .int .i64 x.st.seq, .int .i64 x.kind, .int .i64 x.box.lo.x, .int .i64 x.box.lo.y, .int .i64 x.box.lo.z, .int .i64 x.box.hi.x, .int .i64 x.box.hi.y, .int .i64 x.box.hi.z, .int .i64 x.at_.x, .int .i64 x.at_.y, .int .i64 x.at_.z, .int .i64 x.turn, .int .i64 x.cell, .int .i64 x.size] 30) := ⟨_, rfl⟩
  have hx0 : Ext w W0 := by rw [hW]; exact (Ext.refl w).alloc _
  have B0 : Arr W0 w.heap.size 30 [.int .i64 x.st.tick, .int .i64 x.st.clock, .int .i64 x.st.site, .int .i64 x.st.seq, .int .i64 x.kind, .int .i64 x.box.lo.x, .int .i64 x.box.lo.y, .int .i64 x.box.lo.z, .int .i64 x.box.hi.x, .int .i64 x.box.hi.y, .int .i64 x.box.hi.z, .int .i64 x.at_.x, .int .i64 x.at_.y, .int .i64 x.at_.z, .int .i64 x.turn, .int .i64 x.cell, .int .i64 x.size] := by rw [hW]; exact Arr.new w _ _
  rw [← hW]
  clear hW
  have cB0 := B0.cell
  have fB0 := B0.frozen
  have lB0 := B0.lt
  go_wp2_with (first | (refine wpList_load_blk 30 (.tmp 3) rfl rfl B0 rfl _ Tryd.underlying30 rfl (by kernel_rfl) ?_) | (refine wpList_load_blk 30 (.tmp 3) rfl rfl (B0.alloc _) rfl _ Tryd.underlying30 rfl (by kernel_rfl) ?_) | (refine wpList_load_blk 30 (.tmp 3) rfl rfl ((B0.alloc _).alloc _) rfl _ Tryd.underlying30 rfl (by kernel_rfl) ?_))
  ((refine (HC.out _).mono ?_); rintro e wx ⟨rfl, xx⟩; have xz := xx.size; (try simp only [World.size_alloc_, World.size_setCell_] at xz); have B0 := Arr.ext (w' := wx) B0 (by repeat (first | with_reducible exact Ext.refl _ | with_reducible assumption | with_reducible refine Ext.alloc ?_ _ | with_reducible refine Ext.drew ?_ | (with_reducible refine Ext.setCell ?_ ?_ _; rotate_left; focus (first | (simp; done) | (simp; omega) | omega)) | (with_reducible refine Ext.setRow ?_ ?_ _; rotate_left; focus (first | (simp; done) | (simp; omega) | omega)) | with_reducible refine Ext.trans ?_ (by with_reducible assumption))); have cB0 := B0.cell; have fB0 := B0.frozen; have lB0 := B0.lt)
  have hx1 : Ext w wx := (by repeat (first | with_reducible exact Ext.refl _ | with_reducible assumption | with_reducible refine Ext.alloc ?_ _ | with_reducible refine Ext.drew ?_ | (with_reducible refine Ext.setCell ?_ ?_ _; rotate_left; focus (first | (simp; done) | (simp; omega) | omega)) | (with_reducible refine Ext.setRow ?_ ?_ _; rotate_left; focus (first | (simp; done) | (simp; omega) | omega)) | with_reducible refine Ext.trans ?_ (by with_reducible assumption)))
  go_wp2_with fail
  refine (HE.out _ hx1).mono ?_
  rintro e wE ⟨A', c', rfl, ho, xx⟩
  simp only [rowsL_length] at ho
  try simp only [rowsL_length]
  have hS := Sv.of_own ho (rowsL_rwk lv) (rowsL_length lv)
  have B0 := Arr.ext (w' := wE) B0 xx
  have HB := Lib.hid B0
  have HS := Lib.hid hS
  have HX1 := Lib.hid (hx1.trans xx)
  clear cB0 fB0 lB0 B0 hS ho xx hx1 xz hx0 HE HC
  go_wp2_with fail
  go_loopw [7, 8] (fun v i wr => ∃ j : Nat, j ≤ lv.length ∧ i = .int .i64 j ∧ wr.ownsRow wE.heap.size 52 9 v (rowsL ((lv.take j).filter (keepF x))).length (rowsL ((lv.take j).filter (keepF x))).flatten ∧ Ext wE wr) (fun _ i _ => lv.length - (intOf i).toNat)
  case atStart => exact ⟨0, Nat.zero_le _, rfl, World.ownsRow_nil _ _ _ _, Ext.refl _⟩
  case round =>
    obtain ⟨j, hj, rfl, ho, hx⟩ := hrel
    have HO := Lib.hid ho; clear ho
    have B1 := HB.out.ext hx
    have cB := B1.cell
    have lB := B1.lt
    clear B1
    by_cases hlt : j < lv.length
    · obtain ⟨y, hyj⟩ : ∃ y, lv[j]? = some y := ⟨_, List.getElem?_eq_getElem hlt⟩
      obtain ⟨b', off, rfl, hbl, hrow⟩ := lk_row (HS.out.ext hx) hyj
      have HRW := Lib.hid hrow
      have r0 := hrow 0 _ rfl
      have r1 := hrow 1 _ rfl
      simp only [Nat.add_zero] at r0
      have HST := Lib.hid (filter_stepL (f := keepF x) hyj)
      have hfl2 := filter_leL (keepF x) lv j
      have HM1 := Lib.hid (show (rowsL ((lv.take j).filter (keepF x))).length + 1 ≤ maxLen by rw [rowsL_length]; unfold maxLen; omega)
      have HM2 := Lib.hid (show ((rowsL ((lv.take j).filter (keepF x))).length + 1) * 72 ≤ 140737488355328 by rw [rowsL_length]; omega)
      have HONE := Lib.hid ((rowsL_rwk [y] y.cells (by simp [rowsL])).2)
      clear hrow hyj hfl2
      generalize (lv.take j).filter (keepF x) = l1 at HO HM1 HM2 HST
      have HXX := Lib.hid hx
      by_cases hq : y.site = x.st.site ∧ y.seq = x.size
      · have b1 : (y.site != x.st.site) = false := by simp [hq.1]
        have b2 : (y.seq != x.size) = false := by simp [hq.2]
        have HX := Lib.hid (show rowsL ((lv.take (j + 1)).filter (keepF x)) = rowsL l1 from by rw [HST.out]; simp [keepF, hq.1, hq.2])
        clear HST hq hx
        go_wp2_with fail
        refine wp_region_near (by assumption) (by kernel_rfl) ?_
        repeat (go_big_quiet_step (fail))
        refine wpQuiet_nil ?_
        intro w1 hw1
        have hy := Ext.of_near hw1
        clear hw1
        go_wp2
        go_roundw
        case rel => exact ⟨j + 1, by omega, by go_num, by rw [HX.out]; exact own_ext HO.out hy, HXX.out.trans hy⟩
        case measure => simp [intOf]; omega
      · have HX := Lib.hid (show rowsL ((lv.take (j + 1)).filter (keepF x)) = rowsL l1 ++ [y.cells] from by
          rw [HST.out]
          have : keepF x y = true := by unfold keepF; simp only [Bool.or_eq_true, decide_eq_true_eq]; omega
          simp [this, rowsL])
        have hqq : (y.site != x.st.site) = true ∨ ((y.site != x.st.site) = false ∧ (y.seq != x.size) = true) := by
          by_cases h1 : y.site = x.st.site
          · exact .inr ⟨by simp [h1], by simpa using fun h2 => hq ⟨h1, h2⟩⟩
          · exact .inl (by simpa using h1)
        clear HST hq hx
        rcases hqq with b1 | ⟨b1, b2⟩
        all_goals
          go_wp2_with fail
          refine wp_region_near (by assumption) (by kernel_rfl) ?_
          repeat (go_big_quiet_step (fail))
          refine wpQuiet_nil ?_
          intro w1 hw1
          have hy := Ext.of_near hw1
          clear hw1
          have HO1 := Lib.hid (own_ext HO.out hy)
          have HX1 := Lib.hid (HXX.out.trans hy)
          have HRW1 := Lib.hid (Ext.range hy hbl HRW.out)
          clear hy hbl
          go_wp2_with (first
            | (refine wpList_load_mid rfl 52 (.tmp 50) rfl b' (off + j * 9) rfl y.cells _ HRW1.out Tryd.underlying52 rfl (by kernel_rfl) ?_)
            | (refine wpList_buildRow rfl 22 52 51 rfl 9 (by decide) (by decide) y.cells rfl rfl Tryd.underlying22 (by kernel_rfl) (by kernel_rfl) ?_)
            | (at_builtin; refine wpList_append_own _ rfl _ _ 22 rfl wE.heap.size 52 i0 (.agg #[.int .i64 0, .int .i64 0, .int .i64 0, .int .i64 0, .int .i64 0, .int .i64 0, .int .i64 0, .int .i64 0, .int .i64 0]) 9 72 Tryd.underlying22 HI.out HZ.out HZ1.out HZ2.out rfl (by decide) _ (rowsL l1).length (rowsL l1).flatten rfl (own_ext HO1.out (Ext.alloc (Ext.refl w1) _)) ⟨w1.heap.size, 0, none⟩ 1 1 y.cells rfl rfl ?_ HONE.out HM1.out HM2.out ?_ ?_))
          · intro j2 u hu
            rw [add_lit, Nat.zero_add, cell_of_row _ _ _ _ _ _ (heap_alloc_new w1 _)]
            simpa using hu
          · have h1 := HX1.out.size
            simp only [World.size_alloc_]
            omega
          intro v' w2 g1 g2 _
          have HO2 := Lib.hid g1
          have HX2 := Lib.hid ((HX1.out.alloc (.cells y.cells.toArray 52)).grown g2 (own_low (own_ext HO1.out (Ext.alloc (Ext.refl w1) (.cells y.cells.toArray 52)))))
          clear g1 g2
          go_wp2
          go_roundw
          case rel =>
            refine ⟨j + 1, by omega, by go_num, ?_, HX2.out⟩
            rw [HX.out]
            simpa using HO2.out
          case measure => simp [intOf]; omega
    · obtain rfl : j = lv.length := by omega
      have ho := HO.out
      rw [List.take_length] at ho
      obtain ⟨A2, c2, rfl, _, _⟩ := own_form ho
      have HO2 := Lib.hid ho
      have HXX := Lib.hid hx
      clear ho hx
      by_cases he : (lv.filter (keepF x)).length = lv.length
      · have hb2 : (((rowsL (lv.filter (keepF x))).length : Int) == (lv.length : Int)) = true := by rw [rowsL_length]; simp [he]
        have HE := Lib.hid he
        clear he
        go_wp2
        go_ret2
        rw [HR.out, if_pos HE.out]
        exact RetT.none_ 9 (HX1.out.trans HXX.out)
      · have hb2 : (((rowsL (lv.filter (keepF x))).length : Int) == (lv.length : Int)) = false := by rw [rowsL_length, beq_eq_false_iff_ne]; omega
        have HE := Lib.hid he
        clear he
        go_wp2
        go_ret2
        rw [HR.out, if_neg HE.out]
        refine ⟨A2, c2, ?_, ?_, HX1.out.trans HXX.out⟩
        · simp only [rowsL_length]; rfl
        · have h := own_mono HO2.out HX1.out.size
          simpa only [rowsL_length] using h
theorem refFree_any (A : Option Addr) (c : Nat) (ls : List Lk) (x : Ed) (w : World) (hs : Sv w w.heap.size 9 A c (rowsL ls)) (hb : ls.length ≤ 1000000) :
    Calls Tryd.prog 14 #[.slice A ls.length c, .agg #[.int .i64 x.st.tick, .int .i64 x.st.clock, .int .i64 x.st.site, .int .i64 x.st.seq, .int .i64 x.kind, .int .i64 x.box.lo.x, .int .i64 x.box.lo.y, .int .i64 x.box.lo.z, .int .i64 x.box.hi.x, .int .i64 x.box.hi.y, .int .i64 x.box.hi.z, .int .i64 x.at_.x, .int .i64 x.at_.y, .int .i64 x.at_.z, .int .i64 x.turn, .int .i64 x.cell, .int .i64 x.size]] w (RetT (freeR ls x).1 (freeR ls x).2 w) := by
  cases h : isR x 8
  · have e : freeR ls x = ([], 1) := by unfold freeR; rw [h]; rfl
    rw [e]
    exact refFree_bad A c ls x w h
  · exact refFree_ok A c ls x w hs hb h
end Go.Proofs.YtjceebpafnnffaaDoor

namespace Go.Proofs.YtjceebpafnnffaaDoor
open Go Go.RowKit

section
variable {P : Program} (w : World)
theorem run_append_ofnil (base : Nat) (t ty e : TypeId) (i : TypeInfo) (size : Nat) (ht : P.underlying t = some (.slice e)) (hi : P.info? e = some i)
    (v : Value) (n : Nat) (xs : List Value) (hown : w.ownsRow base e size v n xs) (c : Nat) : (Builtin.append_ #[t, t] ty #[v, .slice none 0 c]).run P w = .ok v w := by
  rcases hown.2 with ⟨rfl, rfl⟩ | ⟨g, cap, cur, rfl, _, _, hnc, _⟩
  · simp [Builtin.append_, run_underlying ht, sizeOf, typeInfo, hi, Builtin.lenOf, Builtin.firstCells]
  · simp [Builtin.append_, run_underlying ht, sizeOf, typeInfo, hi, Builtin.lenOf, Builtin.firstCells, hnc, storeCells]
theorem run_append_sv (base : Nat) (t ty e : TypeId) (i : TypeInfo) (z : Value) (size bytes : Nat) (ht : P.underlying t = some (.slice e)) (hi : P.info? e = some i) (hz : i.zero = some z)
    (hsize : i.size = size) (hby : i.bytes = bytes) (hzs : z.cells.size = size) (hsz : 0 < size)
    (v : Value) (n : Nat) (xs : List Value) (hown : w.ownsRow base e size v n xs)
    (B : Nat) (A : Option Addr) (m c : Nat) (news : List (List Value)) (hr : Sv w B size A c news) (hm : news.length = m)
    (h63 : n + m ≤ maxLen) (hbytes : (n + m) * bytes ≤ 140737488355328) (hbase : base ≤ w.heap.size) :
    ∃ v' w', (Builtin.append_ #[t, t] ty #[v, .slice A m c]).run P w = .ok v' w' ∧ w'.ownsRow base e size v' (n + m) (xs ++ news.flatten) ∧ w.grownBy w' v.ownBlock ∧
      (v'.ownBlock = v.ownBlock ∨ v'.ownBlock = some w.heap.size) := by
  subst hm
  rcases A with _ | ad
  · have hn : news = [] := by
      rcases Nat.eq_zero_or_pos news.length with h0 | h0
      · exact List.eq_nil_of_length_eq_zero h0
      · obtain ⟨b, off, h, _⟩ := hr.mem h0
        cases h
    subst hn
    exact ⟨v, w, run_append_ofnil w base t ty e i size ht hi v n xs hown c, by simpa using hown, World.grownBy.refl w _, .inl rfl⟩
  · obtain ⟨v', w', hrun, h2, h3, _, h5⟩ := run_append_own_at (P := P) w base t ty e i z size bytes ht hi hz hsize hby hzs hsz v n xs hown ad news.length c news.flatten (flatten_length _ hr.rows.len) hr.news hr.rows.one h63 hbytes hbase
    exact ⟨v', w', hrun, h2, h3, h5⟩
theorem wpList_append_sv {ops : Array Oper} {rest : List Oper} {o : Oper} {a : Act} {Q : Exit → Act → World → Prop} (hgd : o.guard = none) (s x : Operand) (t : TypeId)
    (ho : o.op = .call { callee := .builtin .append, args := #[s, x], argTypes := #[t, t] })
    (base : Nat) (e : TypeId) (i : TypeInfo) (z : Value) (size bytes : Nat) (ht : P.underlying t = some (.slice e)) (hi : P.info? e = some i) (hz : i.zero = some z)
    (hsize : i.size = size) (hby : i.bytes = bytes) (hzs : z.cells.size = size) (hsz : 0 < size)
    (v : Value) (n : Nat) (xs : List Value) (hs : a.eval s = v) (hown : w.ownsRow base e size v n xs)
    (B : Nat) (A : Option Addr) (m c : Nat) (news : List (List Value)) (hx : a.eval x = .slice A m c) (hr : Sv w B size A c news) (hm : news.length = m)
    (h63 : n + m ≤ maxLen) (hbytes : (n + m) * bytes ≤ 140737488355328) (hbase : base ≤ w.heap.size)
    (h : ∀ v' w', w'.ownsRow base e size v' (n + m) (xs ++ news.flatten) → w.grownBy w' v.ownBlock → (v'.ownBlock = v.ownBlock ∨ v'.ownBlock = some w.heap.size) → wpList P ops Q rest (a.put o.dst v') w') : wpList P ops Q (o :: rest) a w := by
  refine wpList_plain hgd fun K hK' => ?_
  obtain ⟨v', w', hrun, r1, r2, r3⟩ := run_append_sv (P := P) w base t o.type e i z size bytes ht hi hz hsize hby hzs hsz v n xs hown B A m c news hr hm h63 hbytes hbase
  unfold Oper.wp
  simp [execOp, ho, resolve, invoke, builtin, hs, hx, hrun, Result.andThen]
  exact hK' _ _ (h v' w' r1 r2 r3)
end

section
variable {w w' : World} {B k c : Nat} {A : Option Addr} {xs : List (List Value)}
theorem Sv.take (h : Sv w B k A c xs) (i : Nat) : Sv w B k A c (xs.take i) :=
  ⟨by have h1 := h.le; rw [List.length_take]; omega, h.max, h.rows.sub fun x hx => List.mem_of_mem_take hx, fun hn => by
    rw [List.length_take] at hn
    obtain ⟨b, off, e, hb, hc⟩ := h.mem (by omega)
    refine ⟨b, off, e, hb, fun j u hu => hc j u ?_⟩
    have e2 : xs.flatten = (xs.take i).flatten ++ (xs.drop i).flatten := by rw [← List.flatten_append, List.take_append_drop]
    rw [e2, List.getElem?_append_left (List.getElem?_eq_some_iff.1 hu).1]
    exact hu⟩
theorem Sv.drop (h : Sv w B k A c xs) {i : Nat} (hi : i ≤ xs.length) : Sv w B k (if c = i then A else A.map (·.add (i * k))) (c - i) (xs.drop i) :=
  ⟨by have h1 := h.le; rw [List.length_drop]; omega, by have h1 := h.max; omega, h.rows.sub fun x hx => List.mem_of_mem_drop hx, fun hn => by
    rw [List.length_drop] at hn
    have h1 := h.le
    obtain ⟨b, off, e, hb, hc⟩ := h.mem (by omega)
    rw [if_neg (by omega), e]
    refine ⟨b, off + i * k, by simp [add_lit], hb, fun j u hu => ?_⟩
    have e2 : xs.flatten = (xs.take i).flatten ++ (xs.drop i).flatten := by rw [← List.flatten_append, List.take_append_drop]
    have e3 : (xs.take i).flatten.length = i * k := by rw [flatten_length _ (fun y hy => h.rows.len y (List.mem_of_mem_take hy)), List.length_take]; congr 1; omega
    rw [Nat.add_assoc]
    refine hc _ u ?_
    rw [e2, List.getElem?_append_right (by omega), e3, Nat.add_sub_cancel_left]
    exact hu⟩
theorem Sv.grown (h : Sv w w.heap.size k A c xs) {row : Option Nat} (hg : w.grownBy w' row) (ha : ∀ a : Addr, A = some a → row ≠ some a.block) : Sv w' w'.heap.size k A c xs :=
  ⟨h.le, h.max, h.rows, fun hn => by
    obtain ⟨b, off, e, hb, hc⟩ := h.mem hn
    refine ⟨b, off, e, Nat.lt_of_lt_of_le hb hg.size, fun j u hu => ?_⟩
    rw [World.cell?_of_block (hg.block b hb (fun e2 => ha _ e e2.symm))]
    exact hc j u hu⟩
end
end Go.Proofs.YtjceebpafnnffaaDoor

namespace Go.Proofs.YtjceebpafnnffaaDoor
open Go Go.RowKit

theorem rowsL_take (ls : List Lk) (i : Nat) : rowsL (ls.take i) = (rowsL ls).take i := by simp [rowsL, List.map_take]
theorem rowsL_drop (ls : List Lk) (i : Nat) : rowsL (ls.drop i) = (rowsL ls).drop i := by simp [rowsL, List.map_drop]
def sameF (x : Ed) (y : Lk) : Bool := decide (y.site = x.st.site) && decide (y.seq = x.st.seq)
def metF (x : Ed) (y : Lk) : Bool := decide (y.site ≠ x.st.site) && meetR y.box x.box
def posR (m : Lk) (lv : List Lk) : Nat → Nat
  | 0 => 0
  | n + 1 => match lv[n]? with | some y => if befL m y then posR m lv n else n + 1 | none => n + 1
def moreE (x : Ed) : Lk := ⟨x.st.site, x.st.seq, x.size, x.box⟩
def insL (lv : List Lk) (at_ : Nat) (m : Lk) : List Lk := lv.take at_ ++ (m :: lv.drop at_)
def takeR (ls : List Lk) (x : Ed) : List Lk × Int :=
  if isR x 7 then
    (if (ls.filter (livesL x.st.tick)).any (sameF x) then ([], 10)
     else if (ls.filter (livesL x.st.tick)).any (metF x) then ([], 11)
     else if 16 ≤ (ls.filter (livesL x.st.tick)).countP (fun y => decide (y.site = x.st.site)) then ([], 2)
     else (insL (ls.filter (livesL x.st.tick)) (posR (moreE x) (ls.filter (livesL x.st.tick)) (ls.filter (livesL x.st.tick)).length) (moreE x), 0))
  else ([], 1)
set_option maxRecDepth 100000 in
set_option maxHeartbeats 4000000 in
theorem refTake_bad (A : Option Addr) (c : Nat) (ls : List Lk) (x : Ed) (w : World) (h : isR x 7 = false) :
    Calls Tryd.prog 12 #[.slice A ls.length c, .agg #[.int .i64 x.st.tick, .int .i64 x.st.clock, .int .i64 x.st.site, .int .i64 x.st.seq, .int .i64 x.kind, .int .i64 x.box.lo.x, .int .i64 x.box.lo.y, .int .i64 x.box.lo.z, .int .i64 x.box.hi.x, .int .i64 x.box.hi.y, .int .i64 x.box.hi.z, .int .i64 x.at_.x, .int .i64 x.at_.y, .int .i64 x.at_.z, .int .i64 x.turn, .int .i64 x.cell, .int .i64 x.size]] w (RetT [] 1 w) := by
  have HC := Lib.hid (fun w' : World => refCheck_any x 14 1 w')
  by_cases hk : x.kind = 7
  · have hb : (x.kind != 7) = false := by simp [hk]
    have hc : checkR x 14 1 ≠ 0 := by intro hh; unfold isR at h; simp [hk, hh] at h
    generalize checkR x 14 1 = ce at HC hc
    have hb2 : (ce != 0) = true := by simpa using hc
    clear hk hc h
    go_enter Tryd.func12, Tryd.ntmps12
    go_upto_region 1 with fail
    obtain ⟨W0, hW⟩ : ∃ W, W = w.alloc (.cells #[.int .i64 x.st.tick, .int .i64 x.st.clock, .int .i64 x.st.site, .int .i64 x.st.seq, .int .i64 x.kind, .int .i64 x.box.lo.x, .int .i64 x.box.lo.y, .int .i64 x.box.lo.z, .int .i64 x.box.hi.x, .int .i64 x.box.hi.y, .int .i64 x.box.hi.z, .int .i64 x.at_.x, .int .i64 x.at_.y, .int .i64 x.at_.z, .int .i64 x.turn, .int .i64 x.cell, .int .i64 x.size] 30) := ⟨_, rfl⟩
    have hx0 : Ext w W0 := by rw [hW]; exact (Ext.refl w).alloc _
    have B0 : Arr W0 w.heap.size 30 [.int .i64 x.st.tick, .int .i64 x.st.clock, .int .i64 x.st.site, .int .i64 x.st.seq, .int .i64 x.kind, .int .i64 x.box.lo.x, .int .i64 x.box.lo.y, .int .i64 x.box.lo.z, .int .i64 x.box.hi.x, .int .i64 x.box.hi.y, .int .i64 x.box.hi.z, .int .i64 x.at_.x, .int .i64 x.at_.y, .int .i64 x.at_.z, .int .i64 x.turn, .int .i64 x.cell, .int .i64 x.size] := by rw [hW]; exact Arr.new w _ _
    rw [← hW]
    clear hW
    have cB0 := B0.cell
    have fB0 := B0.frozen
    have lB0 := B0.lt
    go_wp2_with (first | (refine wpList_load_blk 30 (.tmp 3) rfl rfl B0 rfl _ Tryd.underlying30 rfl (by kernel_rfl) ?_) | (refine wpList_load_blk 30 (.tmp 3) rfl rfl (B0.alloc _) rfl _ Tryd.underlying30 rfl (by kernel_rfl) ?_) | (refine wpList_load_blk 30 (.tmp 3) rfl rfl ((B0.alloc _).alloc _) rfl _ Tryd.underlying30 rfl (by kernel_rfl) ?_))
    ((refine (HC.out _).mono ?_); rintro e wx ⟨rfl, xx⟩; have xz := xx.size; (try simp only [World.size_alloc_, World.size_setCell_] at xz); have B0 := Arr.ext (w' := wx) B0 (by repeat (first | with_reducible exact Ext.refl _ | with_reducible assumption | with_reducible refine Ext.alloc ?_ _ | with_reducible refine Ext.drew ?_ | (with_reducible refine Ext.setCell ?_ ?_ _; rotate_left; focus (first | (simp; done) | (simp; omega) | omega)) | (with_reducible refine Ext.setRow ?_ ?_ _; rotate_left; focus (first | (simp; done) | (simp; omega) | omega)) | with_reducible refine Ext.trans ?_ (by with_reducible assumption))); have cB0 := B0.cell; have fB0 := B0.frozen; have lB0 := B0.lt)
    go_wp2
    go_ret2
    exact RetT.none_ 1 (by repeat (first | with_reducible exact Ext.refl _ | with_reducible assumption | with_reducible refine Ext.alloc ?_ _ | with_reducible refine Ext.drew ?_ | (with_reducible refine Ext.setCell ?_ ?_ _; rotate_left; focus (first | (simp; done) | (simp; omega) | omega)) | (with_reducible refine Ext.setRow ?_ ?_ _; rotate_left; focus (first | (simp; done) | (simp; omega) | omega)) | with_reducible refine Ext.trans ?_ (by with_reducible assumption)))
  · have hb : (x.kind != 7) = true := by simpa using hk
    clear hk h HC
    go_enter Tryd.func12, Tryd.ntmps12
    go_upto_region 1 with fail
    obtain ⟨W0, hW⟩ : ∃ W, W = w.alloc (.cells #[.int .i64 x.st.tick, .int .i64 x.st.clock, .int .i64 x.st.site, .int .i64 x.st.seq, .int .i64 x.kind, .int .i64 x.box.lo.x, .int .i64 x.box.lo.y, .int .i64 x.box.lo.z, .int .i64 x.box.hi.x, .int .i64 x.box.hi.y, .int .i64 x.box.hi.z, .int .i64 x.at_.x, .int .i64 x.at_.y, .int .i64 x.at_.z, .int .i64 x.turn, .int .i64 x.cell, .int .i64 x.size] 30) := ⟨_, rfl⟩
    have hx0 : Ext w W0 := by rw [hW]; exact (Ext.refl w).alloc _
    have B0 : Arr W0 w.heap.size 30 [.int .i64 x.st.tick, .int .i64 x.st.clock, .int .i64 x.st.site, .int .i64 x.st.seq, .int .i64 x.kind, .int .i64 x.box.lo.x, .int .i64 x.box.lo.y, .int .i64 x.box.lo.z, .int .i64 x.box.hi.x, .int .i64 x.box.hi.y, .int .i64 x.box.hi.z, .int .i64 x.at_.x, .int .i64 x.at_.y, .int .i64 x.at_.z, .int .i64 x.turn, .int .i64 x.cell, .int .i64 x.size] := by rw [hW]; exact Arr.new w _ _
    rw [← hW]
    clear hW
    have cB0 := B0.cell
    have fB0 := B0.frozen
    have lB0 := B0.lt
    go_wp2
    go_ret2
    exact RetT.none_ 1 (by repeat (first | with_reducible exact Ext.refl _ | with_reducible assumption | with_reducible refine Ext.alloc ?_ _ | with_reducible refine Ext.drew ?_ | (with_reducible refine Ext.setCell ?_ ?_ _; rotate_left; focus (first | (simp; done) | (simp; omega) | omega)) | (with_reducible refine Ext.setRow ?_ ?_ _; rotate_left; focus (first | (simp; done) | (simp; omega) | omega)) | with_reducible refine Ext.trans ?_ (by with_reducible assumption)))
theorem any_step {f : Lk → Bool} {lv : List Lk} {j : Nat} {y : Lk} (hy : lv[j]? = some y) : (lv.take (j + 1)).any f = ((lv.take j).any f || f y) := by
  obtain ⟨hi, rfl⟩ := List.getElem?_eq_some_iff.1 hy
  rw [List.take_succ_eq_append_getElem hi, List.any_append]
  simp
theorem countP_step {f : Lk → Bool} {lv : List Lk} {j : Nat} {y : Lk} (hy : lv[j]? = some y) : (lv.take (j + 1)).countP f = (lv.take j).countP f + if f y then 1 else 0 := by
  obtain ⟨hi, rfl⟩ := List.getElem?_eq_some_iff.1 hy
  rw [List.take_succ_eq_append_getElem hi, List.countP_append]
  simp [List.countP_cons]
theorem countP_take_le (f : Lk → Bool) (lv : List Lk) (j : Nat) : (lv.take j).countP f ≤ j := by
  have h1 := List.countP_le_length (p := f) (l := lv.take j)
  have h2 := List.length_take_le j lv
  omega
theorem any_take_le {f : Lk → Bool} {lv : List Lk} {j : Nat} {y : Lk} (hy : lv[j]? = some y) (h : f y = true) : lv.any f = true := by
  obtain ⟨hi, rfl⟩ := List.getElem?_eq_some_iff.1 hy
  rw [List.any_eq_true]
  exact ⟨_, List.getElem_mem hi, h⟩
set_option maxRecDepth 100000 in
set_option maxHeartbeats 8000000 in
theorem refTake_ok (A : Option Addr) (c : Nat) (ls : List Lk) (x : Ed) (w : World) (hs : Sv w w.heap.size 9 A c (rowsL ls)) (hb : ls.length ≤ 1000000) (h : isR x 7 = true) :
    Calls Tryd.prog 12 #[.slice A ls.length c, .agg #[.int .i64 x.st.tick, .int .i64 x.st.clock, .int .i64 x.st.site, .int .i64 x.st.seq, .int .i64 x.kind, .int .i64 x.box.lo.x, .int .i64 x.box.lo.y, .int .i64 x.box.lo.z, .int .i64 x.box.hi.x, .int .i64 x.box.hi.y, .int .i64 x.box.hi.z, .int .i64 x.at_.x, .int .i64 x.at_.y, .int .i64 x.at_.z, .int .i64 x.turn, .int .i64 x.cell, .int .i64 x.size]] w (RetT (takeR ls x).1 (takeR ls x).2 w) := by
  have hm := mixed
  have hG := near_old
  have HF := Lib.hid (show takeR ls x = (if (ls.filter (livesL x.st.tick)).any (sameF x) then ([], 10)
     else if (ls.filter (livesL x.st.tick)).any (metF x) then ([], 11)
     else if 16 ≤ (ls.filter (livesL x.st.tick)).countP (fun y => decide (y.site = x.st.site)) then ([], 2)
     else (insL (ls.filter (livesL x.st.tick)) (posR (moreE x) (ls.filter (livesL x.st.tick)) (ls.filter (livesL x.st.tick)).length) (moreE x), 0)) from by unfold takeR; rw [h]; rfl)
  have HE := Lib.hid (fun (w' : World) (hx : Ext w w') => refExpire_any A c ls w' (hs.ext hx) hb x.st.tick)
  have hfl := filter_len (livesL x.st.tick) ls
  generalize ls.filter (livesL x.st.tick) = lv at HF HE hfl
  obtain ⟨R, hR⟩ : ∃ R, R = takeR ls x := ⟨_, rfl⟩
  rw [← hR]
  have HR := Lib.hid (hR.trans HF.out)
  unfold isR at h
  simp only [Bool.and_eq_true, decide_eq_true_eq] at h
  have hk : (x.kind != 7) = false := by simp [h.1]
  have HC := Lib.hid (fun w' : World => h.2 ▸ refCheck_any x 14 1 w')
  obtain ⟨i0, hi, hz0, hz1, hz2⟩ := info_parts infoLk
  have HI := Lib.hid hi; have HZ := Lib.hid hz0; have HZ1 := Lib.hid hz1; have HZ2 := Lib.hid hz2; clear hi hz0 hz1 hz2
  clear hR HF h hs
  go_enter Tryd.func12, Tryd.ntmps12
  go_upto_region 1 with fail
  obtain ⟨W0, hW⟩ : ∃ W, W = w.alloc (.cells #[.int .i64 x.st.tick, .int .i64 x.st.clock, .int .i64 x.st.site, .int .i64 x.st.seq, .int .i64 x.kind, .int .i64 x.box.lo.x, .int .i64 x.box.lo.y, .int .i64 x.box.lo.z, .int .i64 x.box.hi.x, .int .i64 x.box.hi.y, .int .i64 x.box.hi.z, .int .i64 x.at_.x, .int .i64 x.at_.y, .int .i64 x.at_.z, .int .i64 x.turn, .int .i64 x.cell, .int .i64 x.size] 30) := ⟨_, rfl⟩
  have hx0 : Ext w W0 := by rw [hW]; exact (Ext.refl w).alloc _
  have B0 : Arr W0 w.heap.size 30 [.int .i64 x.st.tick, .int .i64 x.st.clock, .int .i64 x.st.site, .int .i64 x.st.seq, .int .i64 x.kind, .int .i64 x.box.lo.x, .int .i64 x.box.lo.y, .int .i64 x.box.lo.z, .int .i64 x.box.hi.x, .int .i64 x.box.hi.y, .int .i64 x.box.hi.z, .int .i64 x.at_.x, .int .i64 x.at_.y, .int .i64 x.at_.z, .int .i64 x.turn, .int .i64 x.cell, .int .i64 x.size] := by rw [hW]; exact Arr.new w _ _
  rw [← hW]
  clear hW
  have cB0 := B0.cell
  have fB0 := B0.frozen
  have lB0 := B0.lt
  go_wp2_with (first | (refine wpList_load_blk 30 (.tmp 3) rfl rfl B0 rfl _ Tryd.underlying30 rfl (by kernel_rfl) ?_) | (refine wpList_load_blk 30 (.tmp 3) rfl rfl (B0.alloc _) rfl _ Tryd.underlying30 rfl (by kernel_rfl) ?_) | (refine wpList_load_blk 30 (.tmp 3) rfl rfl ((B0.alloc _).alloc _) rfl _ Tryd.underlying30 rfl (by kernel_rfl) ?_))
  ((refine (HC.out _).mono ?_); rintro e wx ⟨rfl, xx⟩; have xz := xx.size; (try simp only [World.size_alloc_, World.size_setCell_] at xz); have B0 := Arr.ext (w' := wx) B0 (by repeat (first | with_reducible exact Ext.refl _ | with_reducible assumption | with_reducible refine Ext.alloc ?_ _ | with_reducible refine Ext.drew ?_ | (with_reducible refine Ext.setCell ?_ ?_ _; rotate_left; focus (first | (simp; done) | (simp; omega) | omega)) | (with_reducible refine Ext.setRow ?_ ?_ _; rotate_left; focus (first | (simp; done) | (simp; omega) | omega)) | with_reducible refine Ext.trans ?_ (by with_reducible assumption))); have cB0 := B0.cell; have fB0 := B0.frozen; have lB0 := B0.lt)
  have hx1 : Ext w wx := (by repeat (first | with_reducible exact Ext.refl _ | with_reducible assumption | with_reducible refine Ext.alloc ?_ _ | with_reducible refine Ext.drew ?_ | (with_reducible refine Ext.setCell ?_ ?_ _; rotate_left; focus (first | (simp; done) | (simp; omega) | omega)) | (with_reducible refine Ext.setRow ?_ ?_ _; rotate_left; focus (first | (simp; done) | (simp; omega) | omega)) | with_reducible refine Ext.trans ?_ (by with_reducible assumption)))
  go_wp2_with fail
  refine (HE.out _ hx1).mono ?_
  rintro e wE ⟨A', c', rfl, ho, xx⟩
  simp only [rowsL_length] at ho
  try simp only [rowsL_length]
  have hS := Sv.of_own ho (rowsL_rwk lv) (rowsL_length lv)
  have B0 := Arr.ext (w' := wE) B0 xx
  have HB := Lib.hid B0
  have HS := Lib.hid hS
  have HX1 := Lib.hid (hx1.trans xx)
  clear cB0 fB0 lB0 B0 hS ho xx hx1 xz hx0 HE HC
  go_wp2_with fail
  go_loopw [7, 8, 9] (fun v n i wr => ∃ j : Nat, j ≤ lv.length ∧ i = .int .i64 j ∧ v = .bool ((lv.take j).any (metF x)) ∧ n = .int .i64 ((lv.take j).countP (fun y => decide (y.site = x.st.site)) : Nat) ∧ (lv.take j).any (sameF x) = false ∧ Ext wE wr) (fun _ _ i _ => lv.length - (intOf i).toNat)
  case atStart => exact ⟨0, Nat.zero_le _, rfl, rfl, rfl, rfl, Ext.refl _⟩
  case round =>
    obtain ⟨j, hj, rfl, rfl, rfl, hno, hx⟩ := hrel
    have HNO := Lib.hid hno; clear hno
    have hcl := countP_take_le (fun y => decide (y.site = x.st.site)) lv j
    have B1 := HB.out.ext hx
    have cB := B1.cell
    have lB := B1.lt
    clear B1
    by_cases hlt : j < lv.length
    · obtain ⟨y, hyj⟩ : ∃ y, lv[j]? = some y := ⟨_, List.getElem?_eq_getElem hlt⟩
      obtain ⟨b', off, rfl, hbl, hrow⟩ := lk_row (HS.out.ext hx) hyj
      have r0 := hrow 0 _ rfl
      have r1 := hrow 1 _ rfl
      have r3 := hrow 3 _ rfl
      have r4 := hrow 4 _ rfl
      have r5 := hrow 5 _ rfl
      have r6 := hrow 6 _ rfl
      have r7 := hrow 7 _ rfl
      have r8 := hrow 8 _ rfl
      simp only [Nat.add_zero] at r0
      have HYJ := Lib.hid hyj
      have S1 := Lib.hid (any_step (f := sameF x) hyj)
      have S2 := Lib.hid (any_step (f := metF x) hyj)
      have S3 := Lib.hid (countP_step (f := fun y => decide (y.site = x.st.site)) hyj)
      have HXX := Lib.hid hx
      have HME := Lib.hid (fun w' => refmeet_any y.box x.box w')
      clear hrow hyj hx
      generalize (lv.take j).any (metF x) = bm at S2
      generalize (lv.take j).countP (fun y => decide (y.site = x.st.site)) = nn at S3 hcl
      by_cases hq : y.site = x.st.site ∧ y.seq = x.st.seq
      · have b1 : (y.site == x.st.site) = true := by simp [hq.1]
        have b2 : (y.seq == x.st.seq) = true := by simp [hq.2]
        have HR2 := Lib.hid (any_take_le (f := sameF x) HYJ.out (by unfold sameF; simp [hq.1, hq.2]))
        clear hq
        go_wp2_with fail
        refine wp_region_near (by assumption) (by kernel_rfl) ?_
        repeat (go_big_quiet_step (fail))
        refine wpQuiet_nil ?_
        intro w1 hw1
        have hy := Ext.of_near hw1
        clear hw1
        go_wp2
        go_ret2
        rw [HR.out, if_pos HR2.out]
        exact RetT.none_ 10 (HX1.out.trans (HXX.out.trans hy))
      · have HQ := Lib.hid hq
        clear hq
        generalize hmt : meetR y.box x.box = mt at HME
        have HMT := Lib.hid hmt
        clear hmt
        have hqq : (y.site == x.st.site) = false ∨ ((y.site == x.st.site) = true ∧ (y.seq == x.st.seq) = false) := by
          by_cases h1 : y.site = x.st.site
          · exact .inr ⟨by simp [h1], by simpa using fun h2 => HQ.out ⟨h1, h2⟩⟩
          · exact .inl (by simpa using h1)
        rcases hqq with b1 | ⟨b1, b2⟩
        · have b3 : (y.site != x.st.site) = true := by simpa using b1
          have b4 : ¬ y.site = x.st.site := by simpa using b1
          have e1 : sameF x y = false := by unfold sameF; rw [decide_eq_false b4]; rfl
          have e2 : metF x y = mt := by unfold metF; rw [decide_eq_true b4, HMT.out]; rfl
          have E1 := Lib.hid e1; have E2 := Lib.hid e2; have B4 := Lib.hid b4
          clear e1 e2 b4
          go_wp2_with fail
          refine wp_region_near (by assumption) (by kernel_rfl) ?_
          repeat (go_big_quiet_step (fail))
          refine wpQuiet_nil ?_
          intro w1 hw1
          have hy := Ext.of_near hw1
          clear hw1
          obtain ⟨xc, xf, xl, xe, xn, xm⟩ := hy.look
          have hbl := Nat.lt_of_lt_of_le hbl hy.size
          have lB := Nat.lt_of_lt_of_le lB hy.size
          have HXX := Lib.hid (HXX.out.trans hy)
          go_wp2_with fail
          refine wp_region_near (by assumption) (by kernel_rfl) ?_
          repeat (go_big_quiet_step ((go_at_call 41; exact near_call (HME.out _))))
          refine wpQuiet_nil ?_
          intro w1 hw1
          have hy := Ext.of_near hw1
          clear hw1
          obtain ⟨xc, xf, xl, xe, xn, xm⟩ := hy.look
          have hbl := Nat.lt_of_lt_of_le hbl hy.size
          have lB := Nat.lt_of_lt_of_le lB hy.size
          have HXX := Lib.hid (HXX.out.trans hy)
          cases mt
          · go_wp2_with fail
            refine wp_region_near (by assumption) (by kernel_rfl) ?_
            repeat (go_big_quiet_step (fail))
            refine wpQuiet_nil ?_
            intro w1 hw1
            have hy := Ext.of_near hw1
            clear hw1
            obtain ⟨xc, xf, xl, xe, xn, xm⟩ := hy.look
            have hbl := Nat.lt_of_lt_of_le hbl hy.size
            have lB := Nat.lt_of_lt_of_le lB hy.size
            have HXX := Lib.hid (HXX.out.trans hy)
            go_wp2_with fail
            refine wp_region_near (by assumption) (by kernel_rfl) ?_
            repeat (go_big_quiet_step (fail))
            refine wpQuiet_nil ?_
            intro w1 hw1
            have hy := Ext.of_near hw1
            clear hw1
            obtain ⟨xc, xf, xl, xe, xn, xm⟩ := hy.look
            have hbl := Nat.lt_of_lt_of_le hbl hy.size
            have lB := Nat.lt_of_lt_of_le lB hy.size
            have HXX := Lib.hid (HXX.out.trans hy)
            go_wp2
            go_roundw
            case rel =>
              refine ⟨j + 1, by omega, by go_num, ?_, ?_, ?_, HXX.out⟩
              · rw [S2.out, E2.out]; simp
              · rw [S3.out]; simp [B4.out]
              · rw [S1.out, HNO.out, E1.out]; rfl
            case measure => simp [intOf]; omega
          · go_wp2_with fail
            refine wp_region_near (by assumption) (by kernel_rfl) ?_
            repeat (go_big_quiet_step (fail))
            refine wpQuiet_nil ?_
            intro w1 hw1
            have hy := Ext.of_near hw1
            clear hw1
            obtain ⟨xc, xf, xl, xe, xn, xm⟩ := hy.look
            have hbl := Nat.lt_of_lt_of_le hbl hy.size
            have lB := Nat.lt_of_lt_of_le lB hy.size
            have HXX := Lib.hid (HXX.out.trans hy)
            go_wp2_with fail
            refine wp_region_near (by assumption) (by kernel_rfl) ?_
            repeat (go_big_quiet_step (fail))
            refine wpQuiet_nil ?_
            intro w1 hw1
            have hy := Ext.of_near hw1
            clear hw1
            obtain ⟨xc, xf, xl, xe, xn, xm⟩ := hy.look
            have hbl := Nat.lt_of_lt_of_le hbl hy.size
            have lB := Nat.lt_of_lt_of_le lB hy.size
            have HXX := Lib.hid (HXX.out.trans hy)
            go_wp2
            go_roundw
            case rel =>
              refine ⟨j + 1, by omega, by go_num, ?_, ?_, ?_, HXX.out⟩
              · rw [S2.out, E2.out]; simp
              · rw [S3.out]; simp [B4.out]
              · rw [S1.out, HNO.out, E1.out]; rfl
            case measure => simp [intOf]; omega
        · have b3 : (y.site != x.st.site) = false := by simpa using b1
          have b4 : y.site = x.st.site := by simpa using b1
          have b5 : ¬ y.seq = x.st.seq := by simpa using b2
          have e1 : sameF x y = false := by unfold sameF; rw [decide_eq_false b5]; simp
          have e2 : metF x y = false := by unfold metF; rw [decide_eq_false (fun h => h b4)]; rfl
          have E1 := Lib.hid e1; have E2 := Lib.hid e2; have B4 := Lib.hid b4
          clear e1 e2 b4 b5
          go_wp2_with fail
          refine wp_region_near (by assumption) (by kernel_rfl) ?_
          repeat (go_big_quiet_step (fail))
          refine wpQuiet_nil ?_
          intro w1 hw1
          have hy := Ext.of_near hw1
          clear hw1
          obtain ⟨xc, xf, xl, xe, xn, xm⟩ := hy.look
          have hbl := Nat.lt_of_lt_of_le hbl hy.size
          have lB := Nat.lt_of_lt_of_le lB hy.size
          have HXX := Lib.hid (HXX.out.trans hy)
          go_wp2_with fail
          refine wp_region_near (by assumption) (by kernel_rfl) ?_
          repeat (go_big_quiet_step ((go_at_call 41; exact near_call (HME.out _))))
          refine wpQuiet_nil ?_
          intro w1 hw1
          have hy := Ext.of_near hw1
          clear hw1
          obtain ⟨xc, xf, xl, xe, xn, xm⟩ := hy.look
          have hbl := Nat.lt_of_lt_of_le hbl hy.size
          have lB := Nat.lt_of_lt_of_le lB hy.size
          have HXX := Lib.hid (HXX.out.trans hy)
          go_wp2_with fail
          refine wp_region_near (by assumption) (by kernel_rfl) ?_
          repeat (go_big_quiet_step (fail))
          refine wpQuiet_nil ?_
          intro w1 hw1
          have hy := Ext.of_near hw1
          clear hw1
          obtain ⟨xc, xf, xl, xe, xn, xm⟩ := hy.look
          have hbl := Nat.lt_of_lt_of_le hbl hy.size
          have lB := Nat.lt_of_lt_of_le lB hy.size
          have HXX := Lib.hid (HXX.out.trans hy)
          go_wp2_with fail
          refine wp_region_near (by assumption) (by kernel_rfl) ?_
          repeat (go_big_quiet_step (fail))
          refine wpQuiet_nil ?_
          intro w1 hw1
          have hy := Ext.of_near hw1
          clear hw1
          obtain ⟨xc, xf, xl, xe, xn, xm⟩ := hy.look
          have hbl := Nat.lt_of_lt_of_le hbl hy.size
          have lB := Nat.lt_of_lt_of_le lB hy.size
          have HXX := Lib.hid (HXX.out.trans hy)
          go_wp2
          go_roundw
          case rel =>
            refine ⟨j + 1, by omega, by go_num, ?_, ?_, ?_, HXX.out⟩
            · rw [S2.out, E2.out]; simp
            · rw [S3.out]; simp [B4.out]
            · rw [S1.out, HNO.out, E1.out]; rfl
          case measure => simp [intOf]; omega
    · obtain rfl : j = lv.length := by omega
      have e0 : lv.take lv.length = lv := List.take_length
      rw [e0] at HNO hcl
      rw [e0]
      have HXX := Lib.hid hx
      have HNO2 := Lib.hid (show ¬ (lv.any (sameF x) = true) by rw [HNO.out]; simp)
      clear e0 HNO
      cases hmt : lv.any (metF x)
      · have hmt2 : ¬ (lv.any (metF x) = true) := by rw [hmt]; simp
        by_cases h16 : 16 ≤ lv.countP (fun y => decide (y.site = x.st.site))
        · have HR2 := Lib.hid (show R = ([], 2) from by rw [HR.out, if_neg HNO2.out, if_neg hmt2, if_pos h16])
          clear hmt hmt2 hx
          generalize lv.countP (fun y => decide (y.site = x.st.site)) = nn at h16 hcl ⊢
          go_wp2
          go_ret2
          rw [HR2.out]
          exact RetT.none_ 2 (HX1.out.trans HXX.out)
        · have HR2 := Lib.hid (show R = (insL lv (posR (moreE x) lv lv.length) (moreE x), 0) from by rw [HR.out, if_neg HNO2.out, if_neg hmt2, if_neg h16])
          have h16b : lv.countP (fun y => decide (y.site = x.st.site)) < 16 := by omega
          clear hmt hmt2 h16 hx
          generalize lv.countP (fun y => decide (y.site = x.st.site)) = nn at h16b hcl ⊢
          have B4 := Arr.new wr 52 [.int .i64 0, .int .i64 0, .int .i64 0, .int .i64 0, .int .i64 0, .int .i64 0, .int .i64 0, .int .i64 0, .int .i64 0]
          have HB2 := Lib.hid (HB.out.ext HXX.out)
          go_wp2_with (first | (refine wpList_load_part 28 (.tmp 95) rfl rfl HB2.out 5 [.int .i64 x.box.lo.x, .int .i64 x.box.lo.y, .int .i64 x.box.lo.z, .int .i64 x.box.hi.x, .int .i64 x.box.hi.y, .int .i64 x.box.hi.z] rfl rfl _ Tryd.underlying28 rfl (by kernel_rfl) ?_) | (refine wpList_load_part 28 (.tmp 95) rfl rfl (HB2.out.alloc _) 5 [.int .i64 x.box.lo.x, .int .i64 x.box.lo.y, .int .i64 x.box.lo.z, .int .i64 x.box.hi.x, .int .i64 x.box.hi.y, .int .i64 x.box.hi.z] rfl rfl _ Tryd.underlying28 rfl (by kernel_rfl) ?_) | (refine wpList_store_blk 52 (.tmp 11) (.tmp 97) rfl rfl B4 [.int .i64 (moreE x).site, .int .i64 (moreE x).seq, .int .i64 (moreE x).til, .int .i64 (moreE x).box.lo.x, .int .i64 (moreE x).box.lo.y, .int .i64 (moreE x).box.lo.z, .int .i64 (moreE x).box.hi.x, .int .i64 (moreE x).box.hi.y, .int .i64 (moreE x).box.hi.z] rfl rfl (by kernel_rfl) rfl rfl ?_))
          obtain ⟨W2, hW2⟩ : ∃ W, W = (wr.alloc (.cells #[.int .i64 0, .int .i64 0, .int .i64 0, .int .i64 0, .int .i64 0, .int .i64 0, .int .i64 0, .int .i64 0, .int .i64 0] 52)).setRow wr.heap.size #[.int .i64 (moreE x).site, .int .i64 (moreE x).seq, .int .i64 (moreE x).til, .int .i64 (moreE x).box.lo.x, .int .i64 (moreE x).box.lo.y, .int .i64 (moreE x).box.lo.z, .int .i64 (moreE x).box.hi.x, .int .i64 (moreE x).box.hi.y, .int .i64 (moreE x).box.hi.z] := ⟨_, rfl⟩
          have B5 : Arr W2 wr.heap.size 52 (moreE x).cells := by rw [hW2]; exact B4.setRow [.int .i64 (moreE x).site, .int .i64 (moreE x).seq, .int .i64 (moreE x).til, .int .i64 (moreE x).box.lo.x, .int .i64 (moreE x).box.lo.y, .int .i64 (moreE x).box.lo.z, .int .i64 (moreE x).box.hi.x, .int .i64 (moreE x).box.hi.y, .int .i64 (moreE x).box.hi.z]
          have hX2 : Ext wE W2 := by rw [hW2]; exact (HXX.out.alloc _).setRow HXX.out.size _
          first | rw [← hW2] | (simp only [moreE] at hW2; rw [← hW2])
          have HX2 := Lib.hid hX2
          have HB5 := Lib.hid B5
          clear hW2 hX2 B4 B5 cB
          go_loopw [12] (fun i wl => ∃ a : Nat, a ≤ lv.length ∧ i = .int .i64 a ∧ posR (moreE x) lv lv.length = posR (moreE x) lv a ∧ Ext W2 wl) (fun i _ => (intOf i).toNat)
          case atStart => exact ⟨lv.length, Nat.le_refl _, rfl, rfl, Ext.refl _⟩
          case round =>
            obtain ⟨a, ha, rfl, hp, hxl⟩ := hrel
            have B6 := HB5.out.ext hxl
            have cB := B6.cell
            have lB := B6.lt
            have HB6 := Lib.hid B6
            have hSr := HS.out.ext (HX2.out.trans hxl)
            have HP := Lib.hid hp
            have HXL := Lib.hid hxl
            clear B6 hp hxl
            unfold Lk.cells moreE at cB
            by_cases ha0 : a = 0
            · have hd : decide ((0 : Int) < (a : Int)) = false := by simp [ha0]
              have hd2 : decide (0 < a) = false := by simp [ha0]
              have hS1 := HS.out
              have HPF := Lib.hid (show posR (moreE x) lv lv.length = a from by rw [HP.out, ha0]; rfl)
              clear ha0 hSr hS1
              go_wp2_with fail
              refine wp_region_near (by assumption) (by kernel_rfl) ?_
              repeat (go_big_quiet_step (fail))
              refine wpQuiet_nil ?_
              intro w1 hw1
              have hy := Ext.of_near hw1
              clear hw1
              have HYX := Lib.hid hy
              have HSL := Lib.hid ((HS.out.ext (HX2.out.trans HXL.out)).ext hy)
              have HBL := Lib.hid (HB6.out.ext hy)
              have hle := HSL.out.le
              have hmx := HSL.out.max
              simp only [rowsL_length] at hle
              unfold maxLen at hmx
              clear hy
              go_wp2_with (at_builtin; refine wpList_append_sv _ rfl (.tmp 113) (.tmp 116) 22 rfl w1.heap.size 52 i0 (.agg #[.int .i64 0, .int .i64 0, .int .i64 0, .int .i64 0, .int .i64 0, .int .i64 0, .int .i64 0, .int .i64 0, .int .i64 0]) 9 72 Tryd.underlying22 HI.out HZ.out HZ1.out HZ2.out rfl (by decide) _ 0 [] rfl (World.ownsRow_nil _ _ _ _) w1.heap.size A' a c' (rowsL (lv.take a)) rfl (by rw [rowsL_take]; exact HSL.out.take a) (by rw [rowsL_length, List.length_take]; omega) (by unfold maxLen; omega) (by omega) (Nat.le_refl _) ?_)
              intro v2 w2 g1 g2 _
              have HX3 := Lib.hid (show Ext w1 w2 from (Ext.refl w1).grown g2 (by simp [Value.ownBlock]))
              have HO3 := Lib.hid (show w2.ownsRow w1.heap.size 52 9 v2 a (rowsL (lv.take a)).flatten by simpa using g1)
              have HBM := Lib.hid (HBL.out.ext HX3.out)
              clear g1 g2
              have HONE := Lib.hid ((rowsL_rwk [moreE x] (moreE x).cells (by simp [rowsL])).2)
              go_wp2_with (first
                | (refine wpList_load_blk 52 (.tmp 11) rfl rfl HBM.out rfl _ Tryd.underlying52 rfl (by kernel_rfl) ?_)
                | (refine wpList_buildRow rfl 22 52 119 rfl 9 (by decide) (by decide) (moreE x).cells rfl rfl Tryd.underlying22 (by kernel_rfl) (by kernel_rfl) ?_)
                | (at_builtin; refine wpList_append_own _ rfl (.tmp 118) (.tmp 120) 22 rfl w1.heap.size 52 i0 (.agg #[.int .i64 0, .int .i64 0, .int .i64 0, .int .i64 0, .int .i64 0, .int .i64 0, .int .i64 0, .int .i64 0, .int .i64 0]) 9 72 Tryd.underlying22 HI.out HZ.out HZ1.out HZ2.out rfl (by decide) _ a (rowsL (lv.take a)).flatten rfl (own_ext HO3.out (Ext.alloc (Ext.refl w2) _)) ⟨w2.heap.size, 0, none⟩ 1 1 (moreE x).cells rfl rfl ?_ HONE.out (by unfold maxLen; omega) (by omega) ?_ ?_))
              · intro j2 u hu
                rw [add_lit, Nat.zero_add, cell_of_row _ _ _ _ _ _ (heap_alloc_new w2 _)]
                simpa using hu
              · have h1 := HX3.out.size
                simp only [World.size_alloc_]
                omega
              intro v3 w3 g1 g2 _
              have HX4 := Lib.hid (show Ext w1 w3 from (HX3.out.alloc _).grown g2 (own_low (own_ext HO3.out (Ext.alloc (Ext.refl w2) (.cells (moreE x).cells.toArray 52)))))
              have HO4 := Lib.hid g1
              clear g1 g2
              have HSD := Lib.hid (show Sv w3 w3.heap.size 9 (if c' = a then A' else Option.map (fun z : Addr => z.add (a * 9)) A') (c' - a) (rowsL (lv.drop a)) from by rw [rowsL_drop]; exact (HSL.out.ext HX4.out).drop (by rw [rowsL_length]; omega))
              by_cases hca : c' = a
              all_goals
                go_wp2_with (at_builtin; refine wpList_append_sv _ rfl (.tmp 122) (.tmp 125) 22 rfl w1.heap.size 52 i0 (.agg #[.int .i64 0, .int .i64 0, .int .i64 0, .int .i64 0, .int .i64 0, .int .i64 0, .int .i64 0, .int .i64 0, .int .i64 0]) 9 72 Tryd.underlying22 HI.out HZ.out HZ1.out HZ2.out rfl (by decide) _ (a + 1) _ rfl HO4.out w3.heap.size (if c' = a then A' else Option.map (fun z : Addr => z.add (a * 9)) A') (lv.length - a) (c' - a) (rowsL (lv.drop a)) ?_ HSD.out (by rw [rowsL_length, List.length_drop]) (by unfold maxLen; omega) (by omega) HX4.out.size ?_)
                intro v5 w5 g1 g2 _
                have HX6 := Lib.hid (HX4.out.grown g2 (own_low HO4.out))
                have eL : (insL lv a (moreE x)).length = a + 1 + (lv.length - a) := by unfold insL; simp <;> omega
                have g3 : w5.ownsRow w1.heap.size 52 9 v5 (rowsL (insL lv a (moreE x))).length (rowsL (insL lv a (moreE x))).flatten := by
                  rw [rowsL_length, eL]
                  unfold insL
                  simpa [rowsL] using g1
                obtain ⟨A5, c5, rfl, _, _⟩ := own_form g3
                have HO5 := Lib.hid g3
                clear g1 g2 g3 eL
                go_wp2
                go_ret2
                rw [HR2.out, HPF.out]
                refine ⟨A5, c5, ?_, ?_, HX1.out.trans (HX2.out.trans (HXL.out.trans (HYX.out.trans HX6.out)))⟩
                · simp only [rowsL_length]; rfl
                · have h5 := own_mono HO5.out (HX1.out.trans (HX2.out.trans (HXL.out.trans HYX.out))).size
                  simpa only [rowsL_length] using h5
            · obtain ⟨n, hn⟩ : ∃ n, a = n + 1 := ⟨a - 1, by omega⟩
              have hd : decide ((0 : Int) < (a : Int)) = true := by simp; omega
              have hd2 : decide (0 < a) = true := by simp; omega
              obtain ⟨y, hyj⟩ : ∃ y, lv[n]? = some y := ⟨_, List.getElem?_eq_getElem (by omega)⟩
              obtain ⟨b', off, hA, hbl, hrow⟩ := lk_row hSr hyj
              have r0 := hrow 0 _ rfl
              have r1 := hrow 1 _ rfl
              have r2 := hrow 2 _ rfl
              have r3 := hrow 3 _ rfl
              have r4 := hrow 4 _ rfl
              have r5 := hrow 5 _ rfl
              have r6 := hrow 6 _ rfl
              have r7 := hrow 7 _ rfl
              have r8 := hrow 8 _ rfl
              simp only [Nat.add_zero] at r0
              subst hA
              have HBE := Lib.hid (fun w' => before_any (moreE x) y w')
              have HYJ := Lib.hid hyj
              clear hrow hyj hSr
              have s1 : IntKind.i64.wrap ((a : Int) - 1) = (n : Int) := by rw [IntWalk.i64_in _ (by omega)]; omega
              have s2 : (a : Int) - 1 = (n : Int) := by omega
              have HN := Lib.hid hn
              clear hn ha0
              cases hbf : befL (moreE x) y
              · rw [hbf] at HBE
                have HPF := Lib.hid (show posR (moreE x) lv lv.length = a from by rw [HP.out, HN.out, posR, HYJ.out]; simp [hbf])
                clear hbf
                go_wp2_with fail
                refine wp_region_near (by assumption) (by kernel_rfl) ?_
                repeat (go_big_quiet_step ((go_at_call 42; exact near_call (HBE.out _))))
                refine wpQuiet_nil ?_
                intro w1 hw1
                have hy := Ext.of_near hw1
                clear hw1
                have HYX := Lib.hid hy
                have HSL := Lib.hid ((HS.out.ext (HX2.out.trans HXL.out)).ext hy)
                have HBL := Lib.hid (HB6.out.ext hy)
                have hle := HSL.out.le
                have hmx := HSL.out.max
                simp only [rowsL_length] at hle
                unfold maxLen at hmx
                clear hy
                go_wp2_with (at_builtin; refine wpList_append_sv _ rfl (.tmp 113) (.tmp 116) 22 rfl w1.heap.size 52 i0 (.agg #[.int .i64 0, .int .i64 0, .int .i64 0, .int .i64 0, .int .i64 0, .int .i64 0, .int .i64 0, .int .i64 0, .int .i64 0]) 9 72 Tryd.underlying22 HI.out HZ.out HZ1.out HZ2.out rfl (by decide) _ 0 [] rfl (World.ownsRow_nil _ _ _ _) w1.heap.size (some ⟨b', off, none⟩) a c' (rowsL (lv.take a)) rfl (by rw [rowsL_take]; exact HSL.out.take a) (by rw [rowsL_length, List.length_take]; omega) (by unfold maxLen; omega) (by omega) (Nat.le_refl _) ?_)
                intro v2 w2 g1 g2 _
                have HX3 := Lib.hid (show Ext w1 w2 from (Ext.refl w1).grown g2 (by simp [Value.ownBlock]))
                have HO3 := Lib.hid (show w2.ownsRow w1.heap.size 52 9 v2 a (rowsL (lv.take a)).flatten by simpa using g1)
                have HBM := Lib.hid (HBL.out.ext HX3.out)
                clear g1 g2
                have HONE := Lib.hid ((rowsL_rwk [moreE x] (moreE x).cells (by simp [rowsL])).2)
                go_wp2_with (first
                  | (refine wpList_load_blk 52 (.tmp 11) rfl rfl HBM.out rfl _ Tryd.underlying52 rfl (by kernel_rfl) ?_)
                  | (refine wpList_buildRow rfl 22 52 119 rfl 9 (by decide) (by decide) (moreE x).cells rfl rfl Tryd.underlying22 (by kernel_rfl) (by kernel_rfl) ?_)
                  | (at_builtin; refine wpList_append_own _ rfl (.tmp 118) (.tmp 120) 22 rfl w1.heap.size 52 i0 (.agg #[.int .i64 0, .int .i64 0, .int .i64 0, .int .i64 0, .int .i64 0, .int .i64 0, .int .i64 0, .int .i64 0, .int .i64 0]) 9 72 Tryd.underlying22 HI.out HZ.out HZ1.out HZ2.out rfl (by decide) _ a (rowsL (lv.take a)).flatten rfl (own_ext HO3.out (Ext.alloc (Ext.refl w2) _)) ⟨w2.heap.size, 0, none⟩ 1 1 (moreE x).cells rfl rfl ?_ HONE.out (by unfold maxLen; omega) (by omega) ?_ ?_))
                · intro j2 u hu
                  rw [add_lit, Nat.zero_add, cell_of_row _ _ _ _ _ _ (heap_alloc_new w2 _)]
                  simpa using hu
                · have h1 := HX3.out.size
                  simp only [World.size_alloc_]
                  omega
                intro v3 w3 g1 g2 _
                have HX4 := Lib.hid (show Ext w1 w3 from (HX3.out.alloc _).grown g2 (own_low (own_ext HO3.out (Ext.alloc (Ext.refl w2) (.cells (moreE x).cells.toArray 52)))))
                have HO4 := Lib.hid g1
                clear g1 g2
                have HSD := Lib.hid (show Sv w3 w3.heap.size 9 (if c' = a then (some ⟨b', off, none⟩) else Option.map (fun z : Addr => z.add (a * 9)) (some ⟨b', off, none⟩)) (c' - a) (rowsL (lv.drop a)) from by rw [rowsL_drop]; exact (HSL.out.ext HX4.out).drop (by rw [rowsL_length]; omega))
                by_cases hca : c' = a
                all_goals
                  go_wp2_with (at_builtin; refine wpList_append_sv _ rfl (.tmp 122) (.tmp 125) 22 rfl w1.heap.size 52 i0 (.agg #[.int .i64 0, .int .i64 0, .int .i64 0, .int .i64 0, .int .i64 0, .int .i64 0, .int .i64 0, .int .i64 0, .int .i64 0]) 9 72 Tryd.underlying22 HI.out HZ.out HZ1.out HZ2.out rfl (by decide) _ (a + 1) _ rfl HO4.out w3.heap.size (if c' = a then (some ⟨b', off, none⟩) else Option.map (fun z : Addr => z.add (a * 9)) (some ⟨b', off, none⟩)) (lv.length - a) (c' - a) (rowsL (lv.drop a)) ?_ HSD.out (by rw [rowsL_length, List.length_drop]) (by unfold maxLen; omega) (by omega) HX4.out.size ?_)
                  intro v5 w5 g1 g2 _
                  have HX6 := Lib.hid (HX4.out.grown g2 (own_low HO4.out))
                  have eL : (insL lv a (moreE x)).length = a + 1 + (lv.length - a) := by unfold insL; simp <;> omega
                  have g3 : w5.ownsRow w1.heap.size 52 9 v5 (rowsL (insL lv a (moreE x))).length (rowsL (insL lv a (moreE x))).flatten := by
                    rw [rowsL_length, eL]
                    unfold insL
                    simpa [rowsL] using g1
                  obtain ⟨A5, c5, rfl, _, _⟩ := own_form g3
                  have HO5 := Lib.hid g3
                  clear g1 g2 g3 eL
                  go_wp2
                  go_ret2
                  rw [HR2.out, HPF.out]
                  refine ⟨A5, c5, ?_, ?_, HX1.out.trans (HX2.out.trans (HXL.out.trans (HYX.out.trans HX6.out)))⟩
                  · simp only [rowsL_length]; rfl
                  · have h5 := own_mono HO5.out (HX1.out.trans (HX2.out.trans (HXL.out.trans HYX.out))).size
                    simpa only [rowsL_length] using h5
              · rw [hbf] at HBE
                have HPF := Lib.hid (show posR (moreE x) lv lv.length = posR (moreE x) lv n from by rw [HP.out, HN.out, posR, HYJ.out]; simp [hbf])
                clear hbf
                go_wp2_with fail
                refine wp_region_near (by assumption) (by kernel_rfl) ?_
                repeat (go_big_quiet_step ((go_at_call 42; exact near_call (HBE.out _))))
                refine wpQuiet_nil ?_
                intro w1 hw1
                have hy := Ext.of_near hw1
                clear hw1
                have HYX := Lib.hid (HXL.out.trans hy)
                clear hy
                go_wp2
                go_roundw
                case rel => exact ⟨n, by have := HN.out; omega, by first | rfl | go_num, HPF.out, HYX.out⟩
                case measure => have := HN.out; simp [intOf]; omega
      · have HR2 := Lib.hid (show R = ([], 11) from by rw [HR.out, if_neg HNO2.out, if_pos hmt])
        clear hmt hx
        go_wp2
        go_ret2
        rw [HR2.out]
        exact RetT.none_ 11 (HX1.out.trans HXX.out)
theorem refTake_any (A : Option Addr) (c : Nat) (ls : List Lk) (x : Ed) (w : World) (hs : Sv w w.heap.size 9 A c (rowsL ls)) (hb : ls.length ≤ 1000000) :
    Calls Tryd.prog 12 #[.slice A ls.length c, .agg #[.int .i64 x.st.tick, .int .i64 x.st.clock, .int .i64 x.st.site, .int .i64 x.st.seq, .int .i64 x.kind, .int .i64 x.box.lo.x, .int .i64 x.box.lo.y, .int .i64 x.box.lo.z, .int .i64 x.box.hi.x, .int .i64 x.box.hi.y, .int .i64 x.box.hi.z, .int .i64 x.at_.x, .int .i64 x.at_.y, .int .i64 x.at_.z, .int .i64 x.turn, .int .i64 x.cell, .int .i64 x.size]] w (RetT (takeR ls x).1 (takeR ls x).2 w) := by
  cases h : isR x 7
  · have e : takeR ls x = ([], 1) := by unfold takeR; rw [h]; rfl
    rw [e]
    exact refTake_bad A c ls x w h
  · exact refTake_ok A c ls x w hs hb h
end Go.Proofs.YtjceebpafnnffaaDoor

namespace Go.Proofs.YtjceebpafnnffaaDoor
open Go Go.RowKit Go.Lib

theorem splice_two (cur S x : List Value) (p : Nat) (h : p + x.length + S.length ≤ cur.length) : splice (splice cur (p + x.length) S) p x = cur.take p ++ (x ++ (S ++ cur.drop (p + x.length + S.length))) := by
  unfold splice
  rw [List.take_append_of_le_length (by simp; omega), List.take_take, Nat.min_eq_left (by omega), List.drop_append_of_le_length (by simp; omega), List.drop_eq_nil_of_le (by simp; omega), List.nil_append]

/-- It hands back an owned row that holds ys; of what was there only block g may have turned. -/
def RetIns (e : TypeId) (k g base : Nat) (ys : List (List Value)) (w : World) (en : Ending) (w' : World) : Prop :=
  ∃ v, en = .returned v ∧ w'.ownsRow base e k v ys.length ys.flatten ∧ w.grownBy w' (some g)
def insAt (xs : List (List Value)) (i : Nat) (x : List Value) : List (List Value) := xs.take i ++ x :: xs.drop i

/-- What 'Insert' at the end hands back. -/
def RetEnd (e : TypeId) (k base : Nat) (ys : List (List Value)) (own : Option Nat) (w : World) (en : Ending) (w' : World) : Prop :=
  ∃ v, en = .returned v ∧ w'.ownsRow base e k v ys.length ys.flatten ∧ w.grownBy w' own
def rowLk (a0 a1 a2 a3 a4 a5 a6 a7 a8 : Int) : List Value := [.int .i64 a0, .int .i64 a1, .int .i64 a2, .int .i64 a3, .int .i64 a4, .int .i64 a5, .int .i64 a6, .int .i64 a7, .int .i64 a8]

theorem infoRowLk : (Tryd.prog.info? 52).map (fun i => (i.zero, i.size, i.bytes)) = some (some (.agg #[.int .i64 0, .int .i64 0, .int .i64 0, .int .i64 0, .int .i64 0, .int .i64 0, .int .i64 0, .int .i64 0, .int .i64 0]), 9, 72) := by kernel_rfl
theorem row_oneLk {a0 a1 a2 a3 a4 a5 a6 a7 a8 : Int} : ∀ u, u ∈ rowLk a0 a1 a2 a3 a4 a5 a6 a7 a8 → u.oneCell' = true := fun u hu => by
  simp only [rowLk, List.mem_cons, List.not_mem_nil, or_false] at hu
  rcases hu with rfl | rfl | rfl | rfl | rfl | rfl | rfl | rfl | rfl <;> rfl
set_option maxHeartbeats 1000000 in
theorem Insert_endLk (v : Value) (base : Nat) (xs : List (List Value)) (w : World) (ho : w.ownsRow base 52 9 v xs.length xs.flatten) (hb : xs.length ≤ 1000000) (hbase : base ≤ w.heap.size)
    (a0 a1 a2 a3 a4 a5 a6 a7 a8 : Int) (vb : Nat) (hv : w.heap[vb]? = some (.cells (rowLk a0 a1 a2 a3 a4 a5 a6 a7 a8).toArray 52 (0, 0))) :
    Calls Tryd.prog 39 #[v, .int .i64 xs.length, .slice (some ⟨vb, 0, none⟩) 1 1] w (RetEnd 52 9 base (xs ++ [rowLk a0 a1 a2 a3 a4 a5 a6 a7 a8]) v.ownBlock w) := by
  obtain ⟨A, c, rfl, hnc, hcm⟩ := own_form ho
  unfold maxLen at hcm
  have hnews : ∀ (j : Nat) (u : Value), (rowLk a0 a1 a2 a3 a4 a5 a6 a7 a8)[j]? = some u → w.cell? ((⟨vb, 0, none⟩ : Addr).add j) = some u := fun j u hu => by
    rw [add_lit, Nat.zero_add, cell_of_row w vb _ _ _ (0, 0) hv]
    simpa using hu
  have hone : ∀ u, u ∈ rowLk a0 a1 a2 a3 a4 a5 a6 a7 a8 → u.oneCell' = true := row_oneLk
  obtain ⟨i0, hi, hz0, hz1, hz2⟩ := info_parts infoRowLk
  have HI := Lib.hid hi; have HZ := Lib.hid hz0; have HZ1 := Lib.hid hz1; have HZ2 := Lib.hid hz2; have HO := Lib.hid ho
  have HN := Lib.hid hnews; have HE := Lib.hid hone
  have HB := Lib.hid (show (xs.length + 1) ≤ maxLen by unfold maxLen; omega)
  have HB2 := Lib.hid (show (xs.length + 1) * 72 ≤ 140737488355328 by omega)
  clear hi hz0 hz1 hz2 ho hnews hone
  by_cases hcc : c = xs.length
  all_goals
    go_enter Tryd.func39, Tryd.ntmps39
    go_wp2_with (at_builtin; refine wpList_append_own _ rfl _ _ 22 rfl base 52 i0 (.agg #[.int .i64 0, .int .i64 0, .int .i64 0, .int .i64 0, .int .i64 0, .int .i64 0, .int .i64 0, .int .i64 0, .int .i64 0]) 9 72 Tryd.underlying22 HI.out HZ.out HZ1.out HZ2.out rfl (by decide) _ xs.length xs.flatten rfl HO.out ⟨vb, 0, none⟩ 1 1 (rowLk a0 a1 a2 a3 a4 a5 a6 a7 a8) rfl rfl HN.out HE.out HB.out HB2.out hbase ?_)
    intro v' w' g1 g2 _
    have HO2 := Lib.hid g1; have HG := Lib.hid g2; clear g1 g2
    go_wp2
    go_ret
    exact ⟨_, rfl, by simpa using HO2.out, by cases A <;> exact HG.out⟩

/-- The cells of the inserted rows, out of the block's. -/
theorem ins_flatten {xs : List (List Value)} {cur : List Value} {i : Nat} {x : List Value} (hr : ∀ y, y ∈ xs → y.length = 9) (hi : i ≤ xs.length) (ht : cur.take (xs.length * 9) = xs.flatten) :
    (insAt xs i x).flatten = cur.take (i * 9) ++ (x ++ (cur.drop (i * 9)).take ((xs.length - i) * 9)) := by
  have h1 := flatten_take xs i hr hi
  have h2 : (xs.drop i).flatten = xs.flatten.drop (i * 9) := by
    have h3 := List.take_append_drop i xs
    have h4 : xs.flatten = (xs.take i).flatten ++ (xs.drop i).flatten := by rw [← List.flatten_append, h3]
    have h5 : (xs.take i).flatten.length = i * 9 := by rw [flatten_length _ (fun y hy => hr y (List.mem_of_mem_take hy)), List.length_take]; congr 1; omega
    rw [h4, show i * 9 = (xs.take i).flatten.length from h5.symm, List.drop_left]
  unfold insAt
  rw [List.flatten_append, List.flatten_cons, h1, h2, ← ht, List.take_take, List.drop_take, Nat.min_eq_left (by omega), Nat.sub_mul]

theorem ins_length {xs : List (List Value)} {i : Nat} {x : List Value} (hi : i ≤ xs.length) : (insAt xs i x).length = xs.length + 1 := by unfold insAt; simp; omega

set_option maxRecDepth 100000 in
set_option maxHeartbeats 2000000 in
theorem Insert_roomLk (g c base : Nat) (xs : List (List Value)) (w : World) (ho : w.ownsRow base 52 9 (.slice (some ⟨g, 0, none⟩) xs.length c) xs.length xs.flatten) (hr : Rws 9 xs) (i : Nat) (hin : i < xs.length) (hroom : xs.length + 1 ≤ c)
    (a0 a1 a2 a3 a4 a5 a6 a7 a8 : Int) (vb : Nat) (hvb : vb ≠ g) (hv : w.heap[vb]? = some (.cells (rowLk a0 a1 a2 a3 a4 a5 a6 a7 a8).toArray 52 (0, 0))) :
    Calls Tryd.prog 39 #[.slice (some ⟨g, 0, none⟩) xs.length c, .int .i64 i, .slice (some ⟨vb, 0, none⟩) 1 1] w (RetIns 52 9 g base (insAt xs i (rowLk a0 a1 a2 a3 a4 a5 a6 a7 a8)) w) := by
  obtain ⟨cur, hbg, hcur, hnc, hcm, hcl, htk⟩ := own_cur ho
  have hcm' := hcm
  unfold maxLen at hcm'
  have mixed := mixed
  have hz2 : ¬ ((i : Int) = (xs.length : Int)) := by omega
  have hsz : (Tryd.prog.info? 52).map (·.size) = some 9 := by
    obtain ⟨i0, hi0, h0, h1, h2⟩ := info_parts infoRowLk
    rw [hi0]; simp [h1]
  have hshv : w.shape? vb = some (52, 9) := by simp [World.shape?, hv, rowLk]
  have hshg : w.shape? g = some (52, cur.length) := by simp [World.shape?, hcur]
  have hov : ∀ lb cb, (callFunc 62 #[.slice (some ⟨vb, 0, none⟩) 1 1, .slice (some ⟨g, (i + 1) * 9, none⟩) lb cb]).run Tryd.prog w = .ok (.value (.bool false)) w := fun lb cb => by
    rw [run_callFunc_extern Tryd.func62 (by kernel_rfl) (by kernel_rfl) (by kernel_rfl) (e := Extern.SlicesOverlaps.overlaps #[22, 22] #[4]) (by kernel_rfl),
      Lib.run_overlaps_apart w 22 4 52 Tryd.underlying22 9 (fun w => by kernel_rfl) ⟨vb, 0, none⟩ ⟨g, (i + 1) * 9, none⟩ 1 1 lb cb hvb _ _ _ _ hshv hshg (by omega) (by simp [World.frozen?, hv]) (by simp [World.frozen?, hv])]
    rfl
  obtain ⟨S, hS⟩ : ∃ S, S = (cur.drop (i * 9)).take ((xs.length - i) * 9) := ⟨_, rfl⟩
  have hSl : S.length = (xs.length - i) * 9 := by rw [hS, List.length_take, List.length_drop]; omega
  have hSone : ∀ u, u ∈ S → u.oneCell' = true := fun u hu => by
    rw [hS] at hu
    refine hr.one u ?_
    rw [← htk, ← List.take_append_drop (i * 9) (cur.take _)]
    refine List.mem_append.2 (.inr ?_)
    rw [List.drop_take, ← Nat.sub_mul]
    exact hu
  have hfin := ins_flatten (x := rowLk a0 a1 a2 a3 a4 a5 a6 a7 a8) hr.len (Nat.le_of_lt hin) htk
  rw [← hS] at hfin
  have hcp1 : ∀ (W : World), W.heap[g]? = w.heap[g]? → ∀ ty dc sc, (Builtin.copy_ #[22, 22] ty #[.slice (some ⟨g, (i + 1) * 9, none⟩) (xs.length - i) dc, .slice (some ⟨g, i * 9, none⟩) (xs.length + 1 - i) sc]).run Tryd.prog W = .ok (goInt (xs.length - i : Nat)) (W.setRow g (splice cur ((i + 1) * 9) S).toArray) := fun W hW ty dc sc => by
    have h := run_copy_rows (P := Tryd.prog) W 22 22 ty 52 9 g ((i + 1) * 9) (xs.length - i) dc ⟨g, i * 9, none⟩ (xs.length + 1 - i) sc cur.toArray 52 S Tryd.underlying22 hsz (hW.trans hcur) (by rw [hSl]; simp only [Nat.min_def]; split <;> omega)
      (fun j u hj => by
        rw [add_lit]
        have hj2 : cur[i * 9 + j]? = some u := by rw [hS, List.getElem?_take] at hj; split at hj; exact (by rw [← List.getElem?_drop]; exact hj); cases hj
        rw [cell_of_row W g _ _ _ (0, 0) (hW.trans hcur)]; simpa using hj2)
      (by simp; omega) hSone
    rw [h]
    have e1 : Nat.min (xs.length + 1 - i) (xs.length - i) = xs.length - i := by simp only [Nat.min_def]; split <;> omega
    rw [e1]
    simp [splice]
  have hcp2 : ∀ (W : World), W.heap[g]? = some (.cells (splice cur ((i + 1) * 9) S).toArray 52 (0, 0)) → W.heap[vb]? = some (.cells (rowLk a0 a1 a2 a3 a4 a5 a6 a7 a8).toArray 52 (0, 0)) → ∀ ty dc, (Builtin.copy_ #[22, 22] ty #[.slice (some ⟨g, i * 9, none⟩) (xs.length + 1 - i) dc, .slice (some ⟨vb, 0, none⟩) 1 1]).run Tryd.prog W = .ok (goInt (1 : Nat)) (W.setRow g (splice (splice cur ((i + 1) * 9) S) (i * 9) (rowLk a0 a1 a2 a3 a4 a5 a6 a7 a8)).toArray) := fun W hWg hWv ty dc => by
    have h := run_copy_rows (P := Tryd.prog) W 22 22 ty 52 9 g (i * 9) (xs.length + 1 - i) dc ⟨vb, 0, none⟩ 1 1 (splice cur ((i + 1) * 9) S).toArray 52 (rowLk a0 a1 a2 a3 a4 a5 a6 a7 a8) Tryd.underlying22 hsz hWg (by simp only [Nat.min_def]; split <;> simp [rowLk]; omega)
      (fun j u hj => by rw [add_lit, cell_of_row W vb _ _ _ (0, 0) hWv]; simpa using hj)
      (by simp only [List.size_toArray]; rw [length_splice _ _ _ (by omega)]; simp [rowLk]; omega) row_oneLk
    rw [h]
    have e1 : Nat.min 1 (xs.length + 1 - i) = 1 := by simp only [Nat.min_def]; split <;> omega
    rw [e1]
    simp [splice]
  have hw1 : IntKind.i64.wrap ((i : Int) + 1) = (i : Int) + 1 := by rw [IntKind.wrap_i64]; omega
  have hb1 : (0 : Int) ≤ (i : Int) + 1 := by omega
  have htn : ((i : Int) + 1).toNat = i + 1 := by omega
  have hb2 : ¬ (c = i + 1) := by omega
  have hb3 : (i : Int) ≤ (xs.length : Int) + 1 := by omega
  have hb4 : ¬ (c = i) := by omega
  have HF := Lib.hid hfin; have HCU := Lib.hid hcur; have HCL := Lib.hid hcl; have HSL := Lib.hid hSl; have HSS := Lib.hid hS; have HV := Lib.hid hv; have HR := Lib.hid hr
  have H1 := Lib.hid hcp1; have H2 := Lib.hid hcp2
  clear hfin hcur hcl hSl hS hSone hv hr ho htk hcp1 hcp2 hsz hshv hshg
  go_enter Tryd.func39, Tryd.ntmps39
  go_wp2_with (simp only [hov])
  have hgl : g < w.heap.size := (Array.getElem?_eq_some_iff.1 HCU.out).1
  have hvl : vb < w.heap.size := (Array.getElem?_eq_some_iff.1 HV.out).1
  refine wp_region_near_tail 8 (by assumption) (by kernel_rfl) ?_
  simp only [List.take_succ_cons, List.take_zero, List.drop_succ_cons, List.drop_zero]
  repeat (go_big_quiet_step (fail))
  refine wpQuiet_nil ?_
  intro w1 hw1
  have hy := Ext.of_near hw1
  clear hw1
  have hWg := hy.below.block g hgl
  have hWv := (hy.below.block vb hvl).trans HV.out
  have HW1 := Lib.hid (setRow_heap w1 g cur.toArray (splice cur ((i + 1) * 9) S).toArray 52 (0, 0) (hWg.trans HCU.out))
  have HW2 := Lib.hid ((setRow_other w1 g vb (splice cur ((i + 1) * 9) S).toArray hvb).trans hWv)
  have HWG := Lib.hid hWg
  clear hWg hWv
  refine wpList_copy_runI _ rfl (.tmp 73) (.tmp 76) 22 22 rfl _ _ rfl rfl (H1.out _ HWG.out _ _ _) ?_
  go_wp2_with (with_reducible refine wpList_copy_runI _ rfl (.tmp 80) (.tmp 81) 22 22 rfl _ _ rfl rfl (H2.out _ HW1.out HW2.out _ _) ?_)
  go_ret
  refine ⟨_, rfl, ?_, grown_row (grown_row (hy.by_ _) _) _⟩
  rw [ins_length (Nat.le_of_lt hin)]
  have hl := HCL.out
  have hsl := HSL.out
  have e1 : (splice (splice cur ((i + 1) * 9) S) (i * 9) (rowLk a0 a1 a2 a3 a4 a5 a6 a7 a8)).length = c * 9 := by
    rw [length_splice _ _ _ (by rw [length_splice _ _ _ (by omega)]; simp [rowLk]; omega), length_splice _ _ _ (by omega), hl]
  refine own_of_cur hbg (setRow_heap _ g _ _ _ _ HW1.out) hroom hcm e1 ?_
  rw [HF.out, show (i + 1) * 9 = i * 9 + (rowLk a0 a1 a2 a3 a4 a5 a6 a7 a8).length by simp [rowLk]; omega, splice_two _ _ _ _ (by simp [rowLk]; omega)]
  rw [← List.append_assoc, ← List.append_assoc, List.take_append_of_le_length (by simp [rowLk]; omega), List.take_of_length_le (by simp [rowLk]; omega), List.append_assoc]
end Go.Proofs.YtjceebpafnnffaaDoor

namespace Go.Proofs.YtjceebpafnnffaaDoor
open Go Go.RowKit Go.Lib

theorem splice_ext (P Z1 Z2 x S : List Value) (p : Nat) (hp : P.length = p) (hz : Z1.length = x.length + S.length) : splice (splice (P ++ (Z1 ++ Z2)) p x) (p + x.length) S = P ++ (x ++ (S ++ Z2)) := by
  subst hp
  have e1 : splice (P ++ (Z1 ++ Z2)) P.length x = P ++ x ++ (Z1 ++ Z2).drop x.length := by
    unfold splice
    rw [List.take_left, List.drop_append, List.drop_eq_nil_of_le (by omega), List.nil_append, show P.length + x.length - P.length = x.length by omega, List.append_assoc]
  rw [e1]
  unfold splice
  rw [← List.length_append, List.take_left, List.drop_append, List.drop_eq_nil_of_le (by omega), List.nil_append, show (P ++ x).length + S.length - (P ++ x).length = S.length by omega, List.drop_drop, List.drop_append, List.drop_eq_nil_of_le (by omega), List.nil_append, show x.length + S.length - Z1.length = 0 by omega, List.drop_zero]
  simp

set_option maxRecDepth 100000 in
set_option maxHeartbeats 2000000 in
theorem Insert_growLk (g c base : Nat) (xs : List (List Value)) (w : World) (ho : w.ownsRow base 52 9 (.slice (some ⟨g, 0, none⟩) xs.length c) xs.length xs.flatten) (hr : Rws 9 xs) (hbase : base ≤ w.heap.size) (hb : xs.length ≤ 1000000) (i : Nat) (hin : i < xs.length) (hroom : ¬ xs.length + 1 ≤ c)
    (a0 a1 a2 a3 a4 a5 a6 a7 a8 : Int) (vb : Nat) (hv : w.heap[vb]? = some (.cells (rowLk a0 a1 a2 a3 a4 a5 a6 a7 a8).toArray 52 (0, 0))) :
    Calls Tryd.prog 39 #[.slice (some ⟨g, 0, none⟩) xs.length c, .int .i64 i, .slice (some ⟨vb, 0, none⟩) 1 1] w (RetIns 52 9 g base (insAt xs i (rowLk a0 a1 a2 a3 a4 a5 a6 a7 a8)) w) := by
  obtain ⟨cur, hbg, hcur, hnc, hcm, hcl, htk⟩ := own_cur ho
  obtain rfl : c = xs.length := by omega
  have mixed := mixed
  have hz2 : ¬ ((i : Int) = (xs.length : Int)) := by omega
  obtain ⟨i0, hi0, hz0, hzs, hzb⟩ := info_parts infoRowLk
  have hsz : (Tryd.prog.info? 52).map (·.size) = some 9 := by rw [hi0]; simp [hzs]
  obtain ⟨S, hS⟩ : ∃ S, S = (cur.drop (i * 9)).take ((xs.length - i) * 9) := ⟨_, rfl⟩
  have hSl : S.length = (xs.length - i) * 9 := by rw [hS, List.length_take, List.length_drop]; omega
  have hSone : ∀ u, u ∈ S → u.oneCell' = true := fun u hu => by
    rw [hS] at hu
    refine hr.one u ?_
    rw [← htk, ← List.take_append_drop (i * 9) (cur.take _)]
    refine List.mem_append.2 (.inr ?_)
    rw [List.drop_take, ← Nat.sub_mul]
    exact hu
  have hfin := ins_flatten (x := rowLk a0 a1 a2 a3 a4 a5 a6 a7 a8) hr.len (Nat.le_of_lt hin) htk
  rw [← hS] at hfin
  have hold : (Builtin.firstCells i0.size i (.slice (some ⟨g, 0, none⟩) i xs.length)).run Tryd.prog w.drew = .ok (cur.take (i * 9)).toArray w.drew := by
    rw [hzs]
    exact run_firstCells_some w.drew 9 i ⟨g, 0, none⟩ i xs.length (cur.take (i * 9)) (by rw [List.length_take]; omega) (fun j u hj => by
      rw [Addr.add_lit, Nat.zero_add]
      rw [List.getElem?_take] at hj
      split at hj
      · rw [cell_of_row w.drew g _ _ _ (0, 0) hcur]; simpa using hj
      · cases hj)
  obtain ⟨Z1, hZ1⟩ : ∃ Z, Z = (Builtin.zeroCells (Value.agg #[.int .i64 0, .int .i64 0, .int .i64 0, .int .i64 0, .int .i64 0, .int .i64 0, .int .i64 0, .int .i64 0, .int .i64 0]).cells (xs.length + 1 - i)) := ⟨_, rfl⟩
  obtain ⟨G, hG⟩ : ∃ G, G = grownCap w (xs.length + 1) xs.length 52 := ⟨_, rfl⟩
  obtain ⟨Z2, hZ2⟩ : ∃ Z, Z = (Builtin.zeroCells (Value.agg #[.int .i64 0, .int .i64 0, .int .i64 0, .int .i64 0, .int .i64 0, .int .i64 0, .int .i64 0, .int .i64 0, .int .i64 0]).cells (G - (xs.length + 1))) := ⟨_, rfl⟩
  have hrz : ∀ ty, (Builtin.append_ #[22, 3] ty #[.slice (some ⟨g, 0, none⟩) i xs.length, .int .i64 ((xs.length : Int) + 1 - (i : Int))]).run Tryd.prog w =
      .ok (.slice (some ⟨w.heap.size, 0, none⟩) (xs.length + 1) G) (w.drew.alloc (.cells ((cur.take (i * 9)).toArray ++ Z1 ++ Z2) 52)) := fun ty => by
    have h := Lib.run_append_grow_zeros w 22 3 ty 52 i0 _ .i64 .i64 Tryd.underlying22 Tryd.underlying3 hi0 hz0 (some ⟨g, 0, none⟩) i xs.length (cur.take (i * 9)) hold (xs.length + 1 - i) (by omega) (by omega) (by omega) (by omega) (by rw [hzb]; omega) (by rw [hzb, show i + (xs.length + 1 - i) = xs.length + 1 by omega]; exact growslice_fits (by omega) (by omega))
    rw [show i + (xs.length + 1 - i) = xs.length + 1 by omega, ← hG, ← hZ1, ← hZ2] at h
    rw [show (xs.length : Int) + 1 - (i : Int) = ((xs.length + 1 - i : Nat) : Int) by omega]
    exact h
  have hGn : xs.length + 1 ≤ G := by rw [hG]; exact grownCap_ge w _ _ _
  have hGm : G ≤ maxLen := by rw [hG]; exact grownCap_le_maxLen w (xs.length + 1) xs.length _ (by unfold maxLen; omega)
  have hZ1l : Z1.toList.length = (xs.length + 1 - i) * 9 := by rw [hZ1, Array.length_toList, size_zeroCells]; rfl
  have hZ2l : Z2.toList.length = (G - (xs.length + 1)) * 9 := by rw [hZ2, Array.length_toList, size_zeroCells]; rfl
  obtain ⟨R, hR⟩ : ∃ R, R = cur.take (i * 9) ++ (Z1.toList ++ Z2.toList) := ⟨_, rfl⟩
  have hRa : (cur.take (i * 9)).toArray ++ Z1 ++ Z2 = R.toArray := by rw [hR]; apply Array.ext'; simp
  have hRl : R.length = G * 9 := by rw [hR, List.length_append, List.length_append, hZ1l, hZ2l, List.length_take]; omega
  rw [hRa] at hrz
  have hgl : g < w.heap.size := (Array.getElem?_eq_some_iff.1 hcur).1
  have hvl : vb < w.heap.size := (Array.getElem?_eq_some_iff.1 hv).1
  obtain ⟨W0, hW0⟩ : ∃ W0, W0 = w.drew.alloc (.cells R.toArray 52) := ⟨_, rfl⟩
  have hx0 : Ext w W0 := by rw [hW0]; exact ((Ext.refl w).drew).alloc _
  have h0N : W0.heap[w.heap.size]? = some (.cells R.toArray 52 (0, 0)) := by rw [hW0]; exact heap_alloc_new w.drew _
  rw [← hW0] at hrz
  have hcp1 : ∀ ty dc, (Builtin.copy_ #[22, 22] ty #[.slice (some ⟨w.heap.size, i * 9, none⟩) (xs.length + 1 - i) dc, .slice (some ⟨vb, 0, none⟩) 1 1]).run Tryd.prog W0 = .ok (goInt (1 : Nat)) (W0.setRow w.heap.size (splice R (i * 9) (rowLk a0 a1 a2 a3 a4 a5 a6 a7 a8)).toArray) := fun ty dc => by
    have h := run_copy_rows (P := Tryd.prog) W0 22 22 ty 52 9 w.heap.size (i * 9) (xs.length + 1 - i) dc ⟨vb, 0, none⟩ 1 1 R.toArray 52 (rowLk a0 a1 a2 a3 a4 a5 a6 a7 a8) Tryd.underlying22 hsz h0N (by simp only [Nat.min_def]; split <;> simp [rowLk]; omega)
      (fun j u hj => by rw [add_lit, cell_of_row W0 vb _ _ _ (0, 0) ((hx0.below.block vb hvl).trans hv)]; simpa using hj)
      (by simp [rowLk]; omega) row_oneLk
    rw [h, show Nat.min 1 (xs.length + 1 - i) = 1 by simp only [Nat.min_def]; split <;> omega]
    simp [splice]
  obtain ⟨W1, hW1⟩ : ∃ W1, W1 = W0.setRow w.heap.size (splice R (i * 9) (rowLk a0 a1 a2 a3 a4 a5 a6 a7 a8)).toArray := ⟨_, rfl⟩
  have hx1 : Ext w W1 := by rw [hW1]; exact ⟨⟨hx0.below.os, hx0.below.tape, hx0.below.output, by simpa [World.setRow] using hx0.below.size, fun k hk => (setRow_other W0 w.heap.size k _ (by omega)).trans (hx0.below.block k hk)⟩⟩
  have h1N : W1.heap[w.heap.size]? = some (.cells (splice R (i * 9) (rowLk a0 a1 a2 a3 a4 a5 a6 a7 a8)).toArray 52 (0, 0)) := by rw [hW1]; exact setRow_heap W0 _ _ _ _ _ h0N
  have h1s : w.heap.size < W1.heap.size := (Array.getElem?_eq_some_iff.1 h1N).1
  rw [← hW1] at hcp1
  have hl1 : (splice R (i * 9) (rowLk a0 a1 a2 a3 a4 a5 a6 a7 a8)).length = G * 9 := by rw [length_splice _ _ _ (by simp [rowLk]; omega), hRl]
  have hcp2 : ∀ (W : World), Ext W1 W → ∀ ty dc sc, (Builtin.copy_ #[22, 22] ty #[.slice (some ⟨w.heap.size, (i + 1) * 9, none⟩) (xs.length - i) dc, .slice (some ⟨g, i * 9, none⟩) (xs.length - i) sc]).run Tryd.prog W = .ok (goInt (xs.length - i : Nat)) (W.setRow w.heap.size (splice (splice R (i * 9) (rowLk a0 a1 a2 a3 a4 a5 a6 a7 a8)) ((i + 1) * 9) S).toArray) := fun W hW ty dc sc => by
    have hWN : W.heap[w.heap.size]? = some (.cells (splice R (i * 9) (rowLk a0 a1 a2 a3 a4 a5 a6 a7 a8)).toArray 52 (0, 0)) := (hW.below.block _ h1s).trans h1N
    have hWg : W.heap[g]? = some (.cells cur.toArray 52 (0, 0)) := (hW.below.block g (by omega)).trans ((hx1.below.block g hgl).trans hcur)
    have h := run_copy_rows (P := Tryd.prog) W 22 22 ty 52 9 w.heap.size ((i + 1) * 9) (xs.length - i) dc ⟨g, i * 9, none⟩ (xs.length - i) sc (splice R (i * 9) (rowLk a0 a1 a2 a3 a4 a5 a6 a7 a8)).toArray 52 S Tryd.underlying22 hsz hWN (by rw [hSl]; simp only [Nat.min_def]; split <;> omega)
      (fun j u hj => by
        rw [add_lit]
        have hj2 : cur[i * 9 + j]? = some u := by rw [hS, List.getElem?_take] at hj; split at hj; exact (by rw [← List.getElem?_drop]; exact hj); cases hj
        rw [cell_of_row W g _ _ _ (0, 0) hWg]; simpa using hj2)
      (by simp only [List.size_toArray]; omega) hSone
    rw [h, show Nat.min (xs.length - i) (xs.length - i) = xs.length - i by simp]
    simp [splice]
  have hw1 : IntKind.i64.wrap ((i : Int) + 1) = (i : Int) + 1 := by rw [IntKind.wrap_i64]; omega
  have hb1 : (0 : Int) ≤ (i : Int) + 1 := by omega
  have htn : ((i : Int) + 1).toNat = i + 1 := by omega
  have hb2 : ¬ (G = i + 1) := by omega
  have hb3 : ¬ (G = i) := by omega
  have hb4 : ¬ (xs.length = i) := by omega
  have hz3 : (xs.length : Int) < (xs.length : Int) + 1 := by omega
  have hm := mixed
  have HRZ := Lib.hid hrz; have HC1 := Lib.hid hcp1; have HC2 := Lib.hid hcp2; have HF := Lib.hid hfin; have HX1 := Lib.hid hx1; have HX0 := Lib.hid hx0; have H1N := Lib.hid h1N; have HL1 := Lib.hid hl1
  have HRL := Lib.hid hRl; have HR := Lib.hid hR; have HZL := Lib.hid hZ1l; have HSL := Lib.hid hSl; have HCL := Lib.hid hcl; have HGM := Lib.hid hGm
  clear hrz hcp1 hcp2 hfin hx1 hx0 h1N h0N hl1 hRl hR hRa hZ1l hZ2l hSl hcl hW0 hW1 hG hZ1 hZ2 hS hSone hold hi0 hz0 hzs hzb hsz hcur hv hr ho htk hcm hGm
  go_enter Tryd.func39, Tryd.ntmps39
  go_wp2_with (first | with_reducible refine Lib.wpList_append_run _ rfl (.tmp 34) (.tmp 39) 22 3 rfl _ _ rfl rfl _ _ (HRZ.out _) ?_ | with_reducible refine wpList_copy_runI _ rfl (.tmp 43) (.tmp 44) 22 22 rfl _ _ rfl rfl (HC1.out _ _) ?_)
  simp only [Act.put, List.setIfInBounds_toArray, List.set_cons_zero, List.set_cons_succ]
  refine wp_region_near_tail 8 (by assumption) (by kernel_rfl) ?_
  simp only [List.take_succ_cons, List.take_zero, List.drop_succ_cons, List.drop_zero]
  repeat (go_big_quiet_step (fail))
  refine wpQuiet_nil ?_
  intro w1 hw1
  have hy := Ext.of_near hw1
  clear hw1
  refine wpList_copy_runI _ rfl (.tmp 50) (.tmp 53) 22 22 rfl _ _ rfl rfl (HC2.out _ hy _ _ _) ?_
  go_wp2
  go_ret
  have hWN := (hy.below.block _ h1s).trans H1N.out
  have hxx := HX1.out.trans hy
  refine ⟨_, rfl, ?_, ⟨hxx.below.os, hxx.below.tape, hxx.below.output, by simpa [World.setRow] using hxx.below.size, fun k hk _ => (setRow_other w1 w.heap.size k _ (by omega)).trans (hxx.below.block k hk)⟩⟩
  rw [ins_length (Nat.le_of_lt hin)]
  have hl := HL1.out
  have hsl := HSL.out
  have hrl := HRL.out
  have hcl := HCL.out
  have e1 : (splice (splice R (i * 9) (rowLk a0 a1 a2 a3 a4 a5 a6 a7 a8)) ((i + 1) * 9) S).length = G * 9 := by
    rw [length_splice _ _ _ (by omega), hl]
  refine own_of_cur hbase (setRow_heap _ _ _ _ _ _ hWN) hGn HGM.out e1 ?_
  have e2 := splice_ext (cur.take (i * 9)) Z1.toList Z2.toList (rowLk a0 a1 a2 a3 a4 a5 a6 a7 a8) S (i * 9) (by rw [List.length_take]; omega) (by rw [HZL.out, hsl]; simp [rowLk]; omega)
  rw [HF.out, show (i + 1) * 9 = i * 9 + (rowLk a0 a1 a2 a3 a4 a5 a6 a7 a8).length by simp [rowLk]; omega, HR.out, e2]
  rw [← List.append_assoc, ← List.append_assoc, List.take_append_of_le_length (by simp [rowLk]; omega), List.take_of_length_le (by simp [rowLk]; omega), List.append_assoc]

/-- An owned row and a use in a block of its own: the use is inserted. -/
theorem Insert_anyLk (v : Value) (base : Nat) (xs : List (List Value)) (w : World) (ho : w.ownsRow base 52 9 v xs.length xs.flatten) (hr : Rws 9 xs) (hb : xs.length ≤ 1000000) (hbase : base ≤ w.heap.size) (i : Nat) (hi : i ≤ xs.length)
    (a0 a1 a2 a3 a4 a5 a6 a7 a8 : Int) (vb : Nat) (hvb : v.ownBlock ≠ some vb) (hv : w.heap[vb]? = some (.cells (rowLk a0 a1 a2 a3 a4 a5 a6 a7 a8).toArray 52 (0, 0))) :
    Calls Tryd.prog 39 #[v, .int .i64 i, .slice (some ⟨vb, 0, none⟩) 1 1] w (RetEnd 52 9 base (insAt xs i (rowLk a0 a1 a2 a3 a4 a5 a6 a7 a8)) v.ownBlock w) := by
  rcases Nat.eq_or_lt_of_le hi with rfl | hin
  · have h := Insert_endLk v base xs w ho hb hbase a0 a1 a2 a3 a4 a5 a6 a7 a8 vb hv
    have e : insAt xs xs.length (rowLk a0 a1 a2 a3 a4 a5 a6 a7 a8) = xs ++ [rowLk a0 a1 a2 a3 a4 a5 a6 a7 a8] := by unfold insAt; simp
    rw [e]; exact h
  · rcases ho.2 with ⟨rfl, hn⟩ | ⟨g, c, cur, rfl, _⟩
    · omega
    · have hne : vb ≠ g := fun e => hvb (by rw [e]; rfl)
      by_cases hroom : xs.length + 1 ≤ c
      · exact Insert_roomLk g c base xs w ho hr i hin hroom a0 a1 a2 a3 a4 a5 a6 a7 a8 vb hne hv
      · exact Insert_growLk g c base xs w ho hr hbase hb i hin hroom a0 a1 a2 a3 a4 a5 a6 a7 a8 vb hv
end Go.Proofs.YtjceebpafnnffaaDoor

namespace Go.Proofs.YtjceebpafnnffaaDoor
open Go Go.RowKit

theorem rowsL_rws (ls : List Lk) : Rws 9 (rowsL ls) := fun x hx => by
  obtain ⟨y, _, rfl⟩ := List.mem_map.1 hx
  exact ⟨[y.site, y.seq, y.til, y.box.lo.x, y.box.lo.y, y.box.lo.z, y.box.hi.x, y.box.hi.y, y.box.hi.z], rfl, rfl⟩
/-- The first rows of the same block; only this block has turned. -/
def RetDelL (g c base : Nat) (ys : List Lk) (w : World) (en : Ending) (w' : World) : Prop :=
  en = .returned (.slice (some ⟨g, 0, none⟩) ys.length c) ∧ w'.ownsRow base 52 9 (.slice (some ⟨g, 0, none⟩) ys.length c) ys.length (rowsL ys).flatten ∧ w.grownBy w' (some g)
theorem zeroLk (w : World) : (zeroValue 52).run Tryd.prog w = .ok (.agg #[.int .i64 0, .int .i64 0, .int .i64 0, .int .i64 0, .int .i64 0, .int .i64 0, .int .i64 0, .int .i64 0, .int .i64 0]) w := by kernel_rfl
theorem own_takeL {w : World} {base g c : Nat} {ls : List Lk} (ho : w.ownsRow base 52 9 (.slice (some ⟨g, 0, none⟩) ls.length c) ls.length (rowsL ls).flatten) {i : Nat} (hi : i ≤ ls.length) :
    w.ownsRow base 52 9 (.slice (some ⟨g, 0, none⟩) i c) i (rowsL (ls.take i)).flatten := by
  obtain ⟨cur, hb, hcur, hnc, hcm, hcl, htk⟩ := own_cur ho
  refine own_of_cur hb hcur (by omega) hcm hcl ?_
  rw [rowsL_take, flatten_take (rowsL ls) i (rowsL_rwk ls).len (by rw [rowsL_length]; exact hi), ← htk, List.take_take]
  congr 1; omega
set_option maxRecDepth 100000 in
set_option maxHeartbeats 4000000 in
theorem Delete_own (g c base : Nat) (ls : List Lk) (w : World) (ho : w.ownsRow base 52 9 (.slice (some ⟨g, 0, none⟩) ls.length c) ls.length (rowsL ls).flatten) (i : Nat) (hi : i < ls.length) (hb : ls.length ≤ 1000000) :
    Calls Tryd.prog 43 #[.slice (some ⟨g, 0, none⟩) ls.length c, .int .i64 i, .int .i64 ((i : Int) + 1)] w (RetDelL g c base (ls.take i ++ ls.drop (i + 1)) w) := by
  have hm := mixed
  have hG := near_old
  obtain ⟨cur, hbg, hcur, hnc, hcm, hcl, htk⟩ := own_cur ho
  unfold maxLen at hcm
  have hgl := (Array.getElem?_eq_some_iff.1 hcur).1
  have hci : ¬ (c = i) := by omega
  have hl1 : (rowsL (ls.drop (i + 1))).length = ls.length - (i + 1) := by rw [rowsL_length, List.length_drop]
  have hS := (Sv.of_own ((rowsL_length ls).symm ▸ ho) (rowsL_rwk ls) rfl).drop (i := i + 1) (by rw [rowsL_length]; omega)
  rw [← rowsL_drop] at hS
  obtain ⟨i0, hi0, hz0, hz1, hz2⟩ := info_parts infoLk
  have HI := Lib.hid hi0; have HZ1 := Lib.hid hz1
  have HOT := Lib.hid (fun (w1 : World) (hx : Ext w w1) => own_ext (own_takeL ho (Nat.le_of_lt hi)) hx)
  have HL1 := Lib.hid hl1
  have HONE := Lib.hid (rowsL_rwk (ls.drop (i + 1))).one
  have HFL := Lib.hid (flatten_length (rowsL (ls.drop (i + 1))) (rowsL_rwk _).len)
  have heq : ((i : Int) == (i : Int) + 1) = false := beq_eq_false_iff_ne.2 (by omega)
  have e2 : i + (ls.length - (i + 1)) = ls.length - 1 := by omega
  have E2 := Lib.hid e2
  clear hcur htk hcl ho hi0 hz0 hz1 hz2 hl1 e2
  by_cases hc1 : c = i + 1
  · rw [if_pos hc1] at hS
    have HN := Lib.hid (fun (w1 : World) (hx : Ext w w1) => (hS.ext hx).news)
    clear hS
    subst hc1
    have hli : ls.length = i + 1 := by omega
    have hc2 : ¬ ((i : Int) = (i : Int) + 1) := by omega
    have HLI := Lib.hid hli
    clear hli
    go_enter Tryd.func43, Tryd.ntmps43
    go_wp2_with fail
    refine wp_region_near_tail 6 (by assumption) (by kernel_rfl) ?_
    simp only [List.take_succ_cons, List.take_zero, List.drop_succ_cons, List.drop_zero]
    repeat (go_big_quiet_step (fail))
    refine wpQuiet_nil ?_
    intro w1 hw1
    have hy := Ext.of_near hw1
    clear hw1
    have HY := Lib.hid hy
    have hs1 := hy.size
    clear hy
    refine wpList_append_own_spare _ rfl (.tmp 22) (.tmp 25) 22 rfl base 52 i0 9 Tryd.underlying22 HI.out HZ1.out g i (i + 1) (rowsL (ls.take i)).flatten rfl (HOT.out _ HY.out) ⟨g, 0, none⟩ 0 _ (rowsL (ls.drop (i + 1))).flatten rfl (by rw [HFL.out, HL1.out, HLI.out]; simp) (HN.out _ HY.out) HONE.out (by omega) ?_
    intro w2 g1 g2
    have hli := HLI.out
    have e9 : i + 0 = ls.length - 1 := by have := HLI.out; omega
    rw [e9] at g1 ⊢
    have HO2 := Lib.hid g1
    have HG2 := Lib.hid g2
    obtain ⟨cur, _, hcur, _, _, hcl, htk⟩ := own_cur g1
    have HC := Lib.hid hcur; have HL := Lib.hid hcl; have HT := Lib.hid htk
    have e3 : (ls.length : Int) - 1 = ((ls.length - 1 : Nat) : Int) := by omega
    have hcn : ¬ (i + 1 = ls.length - 1) := by omega
    have e4 : ls.length - (ls.length - 1) = 0 + 1 := by omega
    have E4 := Lib.hid e4
    clear g1 g2 hcur hcl htk e4 e3 hli e9
    go_wp2_with (with_reducible refine wpList_clear_rows (n := 0) rfl (.tmp 31) 22 rfl 52 9 (.agg #[.int .i64 0, .int .i64 0, .int .i64 0, .int .i64 0, .int .i64 0, .int .i64 0, .int .i64 0, .int .i64 0, .int .i64 0]) Tryd.underlying22 zeroLk rfl ?h1 g ((ls.length - 1) * 9) (i + 1 - (ls.length - 1)) ?h2 cur 52 HC.out ?h3 ?_)
    case h1 => exact zeros_one _ _ (by decide) (fun i hi => by
      have : i < 9 := hi
      match i with
      | 0 => rfl
      | 1 => rfl
      | 2 => rfl
      | 3 => rfl
      | 4 => rfl
      | 5 => rfl
      | 6 => rfl
      | 7 => rfl
      | 8 => rfl
      | n + 9 => omega)
    case h2 => simp [go_sem, E4.out]
    case h3 => have := HL.out; omega
    go_ret
    have hz : (Builtin.zeroCells #[Value.int .i64 0, Value.int .i64 0, Value.int .i64 0, Value.int .i64 0, Value.int .i64 0, Value.int .i64 0, Value.int .i64 0, Value.int .i64 0, Value.int .i64 0] (0 + 1)).toList.length = 9 := by rw [Array.length_toList, size_zeroCells]; rfl
    have hli := HLI.out
    have eL : (ls.take i ++ ls.drop (i + 1)).length = ls.length - 1 := by rw [List.length_append, List.length_take, List.length_drop]; omega
    have eF : (rowsL (ls.take i ++ ls.drop (i + 1))).flatten = (rowsL (ls.take i)).flatten ++ (rowsL (ls.drop (i + 1))).flatten := by simp [rowsL]
    refine ⟨by rw [eL]; rfl, ?_, grown_row ((grown_ext (World.grownBy.refl w (some g)) HY.out).trans HG2.out) _⟩
    rw [eL, eF]
    refine own_of_cur hbg (setRow_heap w2 g _ _ _ _ HC.out) (by omega) (by unfold maxLen; exact hcm) (by rw [length_splice _ _ _ (by rw [hz, HL.out]; omega)]; exact HL.out) ?_
    rw [splice_take _ _ _ (by rw [HL.out]; omega), HT.out]
  · rw [if_neg hc1, Option.map_some, add_lit, Nat.zero_add] at hS
    have HN := Lib.hid (fun (w1 : World) (hx : Ext w w1) => show ∀ j u, (rowsL (ls.drop (i + 1))).flatten[j]? = some u → w1.cell? ((⟨g, (i + 1) * 9, none⟩ : Addr).add j) = some u from fun j u hu => by have h1 := (hS.ext hx).news (a := ⟨g, (i + 1) * 9, none⟩) j u hu; exact h1)
    clear hS
    have hc2 : ¬ ((c : Int) = (i : Int) + 1) := by omega
    go_enter Tryd.func43, Tryd.ntmps43
    go_wp2_with fail
    refine wp_region_near_tail 6 (by assumption) (by kernel_rfl) ?_
    simp only [List.take_succ_cons, List.take_zero, List.drop_succ_cons, List.drop_zero]
    repeat (go_big_quiet_step (fail))
    refine wpQuiet_nil ?_
    intro w1 hw1
    have hy := Ext.of_near hw1
    clear hw1
    have HY := Lib.hid hy
    have hs1 := hy.size
    clear hy
    refine wpList_append_own_spare _ rfl (.tmp 22) (.tmp 25) 22 rfl base 52 i0 9 Tryd.underlying22 HI.out HZ1.out g i c (rowsL (ls.take i)).flatten rfl (HOT.out _ HY.out) ⟨g, (i + 1) * 9, none⟩ (ls.length - (i + 1)) _ (rowsL (ls.drop (i + 1))).flatten rfl (by rw [HFL.out, HL1.out]) (HN.out _ HY.out) HONE.out (by omega) ?_
    intro w2 g1 g2
    rw [E2.out] at g1 ⊢
    have HO2 := Lib.hid g1
    have HG2 := Lib.hid g2
    obtain ⟨cur, _, hcur, _, _, hcl, htk⟩ := own_cur g1
    have HC := Lib.hid hcur; have HL := Lib.hid hcl; have HT := Lib.hid htk
    have e3 : (ls.length : Int) - 1 = ((ls.length - 1 : Nat) : Int) := by omega
    have hcn : ¬ (c = ls.length - 1) := by omega
    have e4 : ls.length - (ls.length - 1) = 0 + 1 := by omega
    have E4 := Lib.hid e4
    clear g1 g2 hcur hcl htk e4 e3
    go_wp2_with (with_reducible refine wpList_clear_rows (n := 0) rfl (.tmp 31) 22 rfl 52 9 (.agg #[.int .i64 0, .int .i64 0, .int .i64 0, .int .i64 0, .int .i64 0, .int .i64 0, .int .i64 0, .int .i64 0, .int .i64 0]) Tryd.underlying22 zeroLk rfl ?h1 g ((ls.length - 1) * 9) (c - (ls.length - 1)) ?h2 cur 52 HC.out ?h3 ?_)
    case h1 => exact zeros_one _ _ (by decide) (fun i hi => by
      have : i < 9 := hi
      match i with
      | 0 => rfl
      | 1 => rfl
      | 2 => rfl
      | 3 => rfl
      | 4 => rfl
      | 5 => rfl
      | 6 => rfl
      | 7 => rfl
      | 8 => rfl
      | n + 9 => omega)
    case h2 => simp [go_sem, E4.out]
    case h3 => have := HL.out; omega
    go_ret
    have hz : (Builtin.zeroCells #[Value.int .i64 0, Value.int .i64 0, Value.int .i64 0, Value.int .i64 0, Value.int .i64 0, Value.int .i64 0, Value.int .i64 0, Value.int .i64 0, Value.int .i64 0] (0 + 1)).toList.length = 9 := by rw [Array.length_toList, size_zeroCells]; rfl
    have eL : (ls.take i ++ ls.drop (i + 1)).length = ls.length - 1 := by rw [List.length_append, List.length_take, List.length_drop]; omega
    have eF : (rowsL (ls.take i ++ ls.drop (i + 1))).flatten = (rowsL (ls.take i)).flatten ++ (rowsL (ls.drop (i + 1))).flatten := by simp [rowsL]
    refine ⟨by rw [eL]; rfl, ?_, grown_row ((grown_ext (World.grownBy.refl w (some g)) HY.out).trans HG2.out) _⟩
    rw [eL, eF]
    refine own_of_cur hbg (setRow_heap w2 g _ _ _ _ HC.out) (by omega) (by unfold maxLen; exact hcm) (by rw [length_splice _ _ _ (by rw [hz, HL.out]; omega)]; exact HL.out) ?_
    rw [splice_take _ _ _ (by rw [HL.out]; omega), HT.out]
end Go.Proofs.YtjceebpafnnffaaDoor

namespace Go.Proofs.YtjceebpafnnffaaDoor
open Go Go.RowKit

theorem rowcLk (x : List Value) (h : x.length = 9) : ∃ u0 u1 u2 u3 u4 u5 u6 u7 u8, x = [u0, u1, u2, u3, u4, u5, u6, u7, u8] := by
  match x, h with
  | [u0, u1, u2, u3, u4, u5, u6, u7, u8], _ => exact ⟨u0, u1, u2, u3, u4, u5, u6, u7, u8, rfl⟩
/-- Called with a row of xs and the target y, in whatever world near w, function g answers cf. -/
structure CmpLk (P : Program) (g : FuncId) (cap : Array Value) (cf : List Value → Int) (y : List Value) (xs : List (List Value)) (w : World) : Prop where
  enters : ∀ args w, (callFunc g args).run P w = .ok (.enter g args) w
  call : ∀ x, x ∈ xs → ∀ w', Ext w w' → Calls P g (#[.agg x.toArray, .agg y.toArray] ++ cap) w' fun e w'' => e = .returned (.int .i64 (cf x)) ∧ Ext w' w''
def bsPos (cf : List Value → Int) (xs : List (List Value)) : Nat := xs.findIdx fun x => decide (0 ≤ cf x)
def bsHit (cf : List Value → Int) (xs : List (List Value)) : Bool := match xs[bsPos cf xs]? with | some x => cf x == 0 | none => false
theorem bsPos_eq {cf : List Value → Int} {xs : List (List Value)} {i : Nat} (hi : i ≤ xs.length) (hL : ∀ (a : Nat) (x : List Value), a < i → xs[a]? = some x → cf x < 0) (hU : ∀ (a : Nat) (x : List Value), i ≤ a → xs[a]? = some x → 0 ≤ cf x) : bsPos cf xs = i := by
  unfold bsPos
  rcases Nat.lt_or_ge i xs.length with h | h
  · rw [List.findIdx_eq h]
    refine ⟨by simpa using hU i _ (Nat.le_refl _) (List.getElem?_eq_getElem h), fun j hj => ?_⟩
    have := hL j _ hj (List.getElem?_eq_getElem (by omega))
    simp; omega
  · obtain rfl : i = xs.length := by omega
    rw [List.findIdx_eq_length]
    intro x hx
    obtain ⟨a, ha⟩ := List.getElem?_of_mem hx
    have := hL a x (List.getElem?_eq_some_iff.1 ha).1 ha
    simp; omega
theorem bsHit_at {cf : List Value → Int} {xs : List (List Value)} {i : Nat} {x : List Value} {v : Int} (hi : bsPos cf xs = i) (hx : xs[i]? = some x) (hv : cf x = v) : bsHit cf xs = (v == 0) := by unfold bsHit; rw [hi, hx]; simp [hv]
theorem bsHit_no {cf : List Value → Int} {xs : List (List Value)} {i : Nat} (hi : bsPos cf xs = i) (h : ¬ i < xs.length) : bsHit cf xs = false := by unfold bsHit; rw [hi, List.getElem?_eq_none (by omega)]
theorem ret_bs {i j : Nat} {a b : Bool} (h : i = j) (k : a = b) : Ending.returned (.tuple #[.int .i64 (i : Int), .bool a]) = .returned (.tuple #[.int .i64 (j : Int), .bool b]) := by rw [h, k]

set_option maxRecDepth 100000 in
set_option maxHeartbeats 4000000 in
theorem BinSearchLk (A : Option Addr) (c : Nat) (xs : List (List Value)) (w : World) (hs : Sv w w.heap.size 9 A c xs) (y0 y1 y2 y3 y4 y5 y6 y7 y8 : Value) (g : FuncId) (lb : Array Value) (cf : List Value → Int) (hp : CmpLk Tryd.prog g lb cf [y0, y1, y2, y3, y4, y5, y6, y7, y8] xs w) (hln : xs.length ≤ 1000000)
    (hmono : ∀ (i j : Nat) (x y : List Value), i < j → xs[i]? = some x → xs[j]? = some y → cf y < 0 → cf x < 0) :
    Calls Tryd.prog 32 #[.slice A xs.length c, .agg #[y0, y1, y2, y3, y4, y5, y6, y7, y8], .func (.func g) #[] lb] w fun e w' =>
      e = .returned (.tuple #[.int .i64 (bsPos cf xs : Int), .bool (bsHit cf xs)]) ∧ Ext w w' := by
  have hm := mixed
  have hG := near_old
  have eg := hp.enters
  have HS := Lib.hid hs; clear hs
  have HP := Lib.hid hp; clear hp
  have HM := Lib.hid hmono; clear hmono
  go_enter Tryd.func32, Tryd.ntmps32
  go_wp2
  go_loopw [9, 10] (fun i j wr => ∃ i' j' : Nat, i = .int .i64 i' ∧ j = .int .i64 j' ∧ i' ≤ j' ∧ j' ≤ xs.length ∧ (∀ (a : Nat) (x : List Value), a < i' → xs[a]? = some x → cf x < 0) ∧ (∀ (a : Nat) (x : List Value), j' ≤ a → xs[a]? = some x → 0 ≤ cf x) ∧ Ext (w.alloc (.cells #[y0, y1, y2, y3, y4, y5, y6, y7, y8] 52)) wr) (fun i j _ => ((intOf j) - (intOf i)).toNat)
  case atStart => exact ⟨0, xs.length, rfl, rfl, Nat.zero_le _, Nat.le_refl _, fun a x ha => by omega, fun a x ha hx => by have := (List.getElem?_eq_some_iff.1 hx).1; omega, Ext.refl _⟩
  case round =>
    obtain ⟨i, j, rfl, rfl, hij, hjn, hL, hU, hx⟩ := hrel
    have HL := Lib.hid hL; clear hL
    have HU := Lib.hid hU; clear hU
    have hx0 := hx.un
    have hz := hx.size1
    by_cases hlt : i < j
    · obtain ⟨h, hh⟩ : ∃ h : Nat, ((i : Int) + (j : Int)) / 2 = (h : Int) := ⟨(i + j) / 2, by omega⟩
      have hih : i ≤ h := by omega
      have hhj : h < j := by omega
      obtain ⟨x, hxj⟩ : ∃ x, xs[h]? = some x := ⟨_, List.getElem?_eq_getElem (by omega)⟩
      have hxm := List.mem_of_getElem? hxj
      have hxl := (HS.out.rows x hxm).1
      obtain ⟨u0, u1, u2, u3, u4, u5, u6, u7, u8, rfl⟩ := rowcLk x hxl
      obtain ⟨b', off, rfl, hbl, hrow⟩ := (HS.out.ext hx0).row hxj
      have h0 := hrow 0 _ rfl
      have h1 := hrow 1 _ rfl
      have h2 := hrow 2 _ rfl
      have h3 := hrow 3 _ rfl
      have h4 := hrow 4 _ rfl
      have h5 := hrow 5 _ rfl
      have h6 := hrow 6 _ rfl
      have h7 := hrow 7 _ rfl
      have h8 := hrow 8 _ rfl
      simp only [Nat.add_zero] at h0
      have hbq : b' < wr.heap.size := hbl
      have q0 := hx.box 0
      have q1 := hx.box 1
      have q2 := hx.box 2
      have q3 := hx.box 3
      have q4 := hx.box 4
      have q5 := hx.box 5
      have q6 := hx.box 6
      have q7 := hx.box 7
      have q8 := hx.box 8
      simp only [List.getElem?_toArray, List.getElem?_cons_zero, List.getElem?_cons_succ] at q0 q1 q2 q3 q4 q5 q6 q7 q8
      have HC := Lib.hid (HP.out.call _ hxm)
      have HX := Lib.hid hxj
      clear hxj hrow hxm hxl
      generalize hcv : cf [u0, u1, u2, u3, u4, u5, u6, u7, u8] = v at HC
      have HV := Lib.hid hcv; clear hcv
      go_wp2_with fail
      refine wp_region_near (by assumption) (by kernel_rfl) ?_
      repeat (go_big_quiet_step ((go_at_fn g; exact near_call (HC.out _ (hx0.trans (Ext.of_near ⟨⟨_, _⟩, rfl⟩))))))
      refine wpQuiet_nil ?_
      intro w1 hw1
      have hy := Ext.of_near hw1
      clear hw1
      go_wp2
      · go_roundw
        case rel =>
          refine ⟨h + 1, j, by go_num, rfl, by omega, by omega, fun a x ha hx => ?_, HU.out, hx.trans hy⟩
          rcases Nat.lt_succ_iff_lt_or_eq.1 ha with h1 | rfl
          · exact HM.out a h x _ h1 hx HX.out (by rw [HV.out]; assumption)
          · rw [HX.out] at hx; injection hx with e; rw [← e, HV.out]; assumption
        case measure => simp [intOf]; omega
      · go_roundw
        case rel =>
          refine ⟨i, h, rfl, rfl, by omega, by omega, HL.out, fun a x ha hx => ?_, hx.trans hy⟩
          rcases Nat.eq_or_lt_of_le ha with rfl | h1
          · rw [HX.out] at hx; injection hx with e; rw [← e, HV.out]; assumption
          · rcases Int.lt_or_le (cf x) 0 with h2 | h2
            · have := HM.out h a _ x h1 HX.out hx h2
              rw [HV.out] at this
              omega
            · exact h2
        case measure => simp [intOf]; omega
    · obtain rfl : i = j := by omega
      by_cases hn : i < xs.length
      · obtain ⟨x, hxj⟩ : ∃ x, xs[i]? = some x := ⟨_, List.getElem?_eq_getElem (by omega)⟩
        have hxm := List.mem_of_getElem? hxj
        have hxl := (HS.out.rows x hxm).1
        obtain ⟨u0, u1, u2, u3, u4, u5, u6, u7, u8, rfl⟩ := rowcLk x hxl
        obtain ⟨b', off, rfl, hbl, hrow⟩ := (HS.out.ext hx0).row hxj
        have h0 := hrow 0 _ rfl
        have h1 := hrow 1 _ rfl
        have h2 := hrow 2 _ rfl
        have h3 := hrow 3 _ rfl
        have h4 := hrow 4 _ rfl
        have h5 := hrow 5 _ rfl
        have h6 := hrow 6 _ rfl
        have h7 := hrow 7 _ rfl
        have h8 := hrow 8 _ rfl
        simp only [Nat.add_zero] at h0
        have hbq : b' < wr.heap.size := hbl
        have q0 := hx.box 0
        have q1 := hx.box 1
        have q2 := hx.box 2
        have q3 := hx.box 3
        have q4 := hx.box 4
        have q5 := hx.box 5
        have q6 := hx.box 6
        have q7 := hx.box 7
        have q8 := hx.box 8
        simp only [List.getElem?_toArray, List.getElem?_cons_zero, List.getElem?_cons_succ] at q0 q1 q2 q3 q4 q5 q6 q7 q8
        have HC := Lib.hid (HP.out.call _ hxm)
        have HX := Lib.hid hxj
        clear hxj hrow hxm hxl
        generalize hcv : cf [u0, u1, u2, u3, u4, u5, u6, u7, u8] = v at HC
        have HV := Lib.hid hcv; clear hcv
        have hd : decide ((i : Int) < (xs.length : Int)) = true := decide_eq_true (by omega)
        go_wp2_with fail
        refine wp_region_near (by assumption) (by kernel_rfl) ?_
        repeat (go_big_quiet_step ((go_at_fn g; exact near_call (HC.out _ (hx0.trans (Ext.of_near ⟨⟨_, _⟩, rfl⟩))))))
        refine wpQuiet_nil ?_
        intro w1 hw1
        have hy := Ext.of_near hw1
        clear hw1
        go_wp2
        go_ret2
        have hp := bsPos_eq (by omega) HL.out HU.out
        exact ⟨ret_bs hp.symm (bsHit_at hp HX.out HV.out).symm, hx0.trans hy⟩
      · have hd : decide ((i : Int) < (xs.length : Int)) = false := decide_eq_false (by omega)
        go_wp2_with fail
        refine wp_region_near (by assumption) (by kernel_rfl) ?_
        repeat (go_big_quiet_step (fail))
        refine wpQuiet_nil ?_
        intro w1 hw1
        have hy := Ext.of_near hw1
        clear hw1
        go_wp2
        go_ret2
        have hp := bsPos_eq (by omega) HL.out HU.out
        exact ⟨ret_bs hp.symm (bsHit_no hp hn).symm, hx0.trans hy⟩
end Go.Proofs.YtjceebpafnnffaaDoor
