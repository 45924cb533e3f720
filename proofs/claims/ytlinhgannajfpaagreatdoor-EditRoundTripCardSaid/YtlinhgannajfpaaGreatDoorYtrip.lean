/- YtlinhgannajfpaaGreatDoorZc · YtlinhgannajfpaaGreatDoorZcP -/
import Derived.Test.YtlinhgannajfpaaGreatDoorTie
import Derived.Test.YtlinhgannajfpaaGreatDoorCards
import Derived.LaidLaws
import Derived.SevenTiedAt
import Derived.Test.YtlinhgannajfpaaGreatDoorYa10
/- EditRoundTrip. -/
namespace Go.Proofs.YtlinhgannajfpaaGreatDoor
open Go Go.RowKit

theorem neqEd_run_same (x : Ed) (w : World) : (binOp .neq 29 (.agg #[.int .i64 x.st.tick, .int .i64 x.st.clock, .int .i64 x.st.site, .int .i64 x.st.seq, .int .i64 x.kind, .int .i64 x.box.lo.x, .int .i64 x.box.lo.y, .int .i64 x.box.lo.z, .int .i64 x.box.hi.x, .int .i64 x.box.hi.y, .int .i64 x.box.hi.z, .int .i64 x.at_.x, .int .i64 x.at_.y, .int .i64 x.at_.z, .int .i64 x.turn, .int .i64 x.cell, .int .i64 x.size]) (.agg #[.int .i64 x.st.tick, .int .i64 x.st.clock, .int .i64 x.st.site, .int .i64 x.st.seq, .int .i64 x.kind, .int .i64 x.box.lo.x, .int .i64 x.box.lo.y, .int .i64 x.box.lo.z, .int .i64 x.box.hi.x, .int .i64 x.box.hi.y, .int .i64 x.box.hi.z, .int .i64 x.at_.x, .int .i64 x.at_.y, .int .i64 x.at_.z, .int .i64 x.turn, .int .i64 x.cell, .int .i64 x.size])).run Tryz.prog w = .ok (.bool false) w := by
  have h := neqEd_run x x w
  simp only [ne_eq, not_true_eq_false, decide_false] at h
  exact h
theorem k_encX (x : Ed) (hx : FitE x) (W : World) : Calls Tryz.prog 25 #[.agg #[.int .i64 x.st.tick, .int .i64 x.st.clock, .int .i64 x.st.site, .int .i64 x.st.seq, .int .i64 x.kind, .int .i64 x.box.lo.x, .int .i64 x.box.lo.y, .int .i64 x.box.lo.z, .int .i64 x.box.hi.x, .int .i64 x.box.hi.y, .int .i64 x.box.hi.z, .int .i64 x.at_.x, .int .i64 x.at_.y, .int .i64 x.at_.z, .int .i64 x.turn, .int .i64 x.cell, .int .i64 x.size]] W fun e w' => ∃ A c, e = .returned (.slice A (encE x).length c) ∧ Sv w' w'.heap.size 1 A c (rowsB (encE x)) ∧ Ext W w' := by
  refine (EncEd_any x hx W).mono ?_
  rintro e w' ⟨A, c, rfl, ho, hx⟩
  exact ⟨A, c, rfl, own_sv_B ho rfl, hx⟩
set_option maxRecDepth 100000 in
set_option maxHeartbeats 16000000 in
theorem EditRoundTrip_any (x y : Ed) (hx : FitE x) (hy : FitE y) (l : List UInt8) (A : Option Addr) (c : Nat) (w : World) (hs : Sv w w.heap.size 1 A c (rowsB l)) (hR : EnvI w) :
    Calls Tryz.prog 6 #[.agg #[.int .i64 x.st.tick, .int .i64 x.st.clock, .int .i64 x.st.site, .int .i64 x.st.seq, .int .i64 x.kind, .int .i64 x.box.lo.x, .int .i64 x.box.lo.y, .int .i64 x.box.lo.z, .int .i64 x.box.hi.x, .int .i64 x.box.hi.y, .int .i64 x.box.hi.z, .int .i64 x.at_.x, .int .i64 x.at_.y, .int .i64 x.at_.z, .int .i64 x.turn, .int .i64 x.cell, .int .i64 x.size], .agg #[.int .i64 y.st.tick, .int .i64 y.st.clock, .int .i64 y.st.site, .int .i64 y.st.seq, .int .i64 y.kind, .int .i64 y.box.lo.x, .int .i64 y.box.lo.y, .int .i64 y.box.lo.z, .int .i64 y.box.hi.x, .int .i64 y.box.hi.y, .int .i64 y.box.hi.z, .int .i64 y.at_.x, .int .i64 y.at_.y, .int .i64 y.at_.z, .int .i64 y.turn, .int .i64 y.cell, .int .i64 y.size], .slice A l.length c] w fun e w' => e = .returned (.bool true) ∧ Ext w w' := by
  have hm := mixed
  have HR := Lib.hid hR
  have HS := Lib.hid hs
  have HFx := Lib.hid hx
  have HFy := Lib.hid hy
  clear hR hs
  obtain ⟨W0, hW⟩ : ∃ W, W = (w.alloc (.cells #[.int .i64 x.st.tick, .int .i64 x.st.clock, .int .i64 x.st.site, .int .i64 x.st.seq, .int .i64 x.kind, .int .i64 x.box.lo.x, .int .i64 x.box.lo.y, .int .i64 x.box.lo.z, .int .i64 x.box.hi.x, .int .i64 x.box.hi.y, .int .i64 x.box.hi.z, .int .i64 x.at_.x, .int .i64 x.at_.y, .int .i64 x.at_.z, .int .i64 x.turn, .int .i64 x.cell, .int .i64 x.size] 29)).alloc (.cells #[.int .i64 y.st.tick, .int .i64 y.st.clock, .int .i64 y.st.site, .int .i64 y.st.seq, .int .i64 y.kind, .int .i64 y.box.lo.x, .int .i64 y.box.lo.y, .int .i64 y.box.lo.z, .int .i64 y.box.hi.x, .int .i64 y.box.hi.y, .int .i64 y.box.hi.z, .int .i64 y.at_.x, .int .i64 y.at_.y, .int .i64 y.at_.z, .int .i64 y.turn, .int .i64 y.cell, .int .i64 y.size] 29) := ⟨_, rfl⟩
  have HXl := Lib.hid (show Ext w W0 by rw [hW]; exact ((Ext.refl w).alloc _).alloc _)
  have HBx := Lib.hid (show Arr W0 w.heap.size 29 [.int .i64 x.st.tick, .int .i64 x.st.clock, .int .i64 x.st.site, .int .i64 x.st.seq, .int .i64 x.kind, .int .i64 x.box.lo.x, .int .i64 x.box.lo.y, .int .i64 x.box.lo.z, .int .i64 x.box.hi.x, .int .i64 x.box.hi.y, .int .i64 x.box.hi.z, .int .i64 x.at_.x, .int .i64 x.at_.y, .int .i64 x.at_.z, .int .i64 x.turn, .int .i64 x.cell, .int .i64 x.size] by rw [hW]; exact (Arr.new w _ _).alloc _)
  have HBy := Lib.hid (show Arr W0 (w.heap.size + 1) 29 [.int .i64 y.st.tick, .int .i64 y.st.clock, .int .i64 y.st.site, .int .i64 y.st.seq, .int .i64 y.kind, .int .i64 y.box.lo.x, .int .i64 y.box.lo.y, .int .i64 y.box.lo.z, .int .i64 y.box.hi.x, .int .i64 y.box.hi.y, .int .i64 y.box.hi.z, .int .i64 y.at_.x, .int .i64 y.at_.y, .int .i64 y.at_.z, .int .i64 y.turn, .int .i64 y.cell, .int .i64 y.size] by rw [hW]; exact Arr.new1 w _ _ [.int .i64 y.st.tick, .int .i64 y.st.clock, .int .i64 y.st.site, .int .i64 y.st.seq, .int .i64 y.kind, .int .i64 y.box.lo.x, .int .i64 y.box.lo.y, .int .i64 y.box.lo.z, .int .i64 y.box.hi.x, .int .i64 y.box.hi.y, .int .i64 y.box.hi.z, .int .i64 y.at_.x, .int .i64 y.at_.y, .int .i64 y.at_.z, .int .i64 y.turn, .int .i64 y.cell, .int .i64 y.size])
  by_cases hl : 400 < (l.length : Int)
  · clear hx hy
    go_enter Tryz.func6, Tryz.ntmps6
    go_upto_region 1 with fail
    rw [← hW]
    clear hW
    go_wp2_with (go_at_call 10; refine (sanity_any _ (HR.out.ext HXl.out)).mono ?_; rintro e W1 ⟨rfl, hx1⟩)
    go_ret
    exact ⟨rfl, HXl.out.trans hx1⟩
  obtain ⟨u, f, hd⟩ : ∃ u f, decE l = (u, f) := ⟨_, _, rfl⟩
  have HDl := Lib.hid (fun (W : World) (hx : Ext w W) => k_dec l l.length rfl u f hd (by omega) A c W (HS.out.ext hx) (HR.out.ext hx))
  have HBK := Lib.hid (fun (h : f = 0) => dec_back (hd.trans (by rw [h])))
  obtain ⟨sm, hsm⟩ : ∃ sm, sm = decide (x = y) := ⟨_, rfl⟩
  have HSM := Lib.hid (fun (A A2 : Option Addr) (c c2 : Nat) (W : World) (h1 : Sv W W.heap.size 1 A c (rowsB (encE x))) (h2 : Sv W W.heap.size 1 A2 c2 (rowsB (encE y))) => (show Calls Tryz.prog 24 #[.slice A (encE x).length c, .slice A2 (encE y).length c2] W fun e w' => e = .returned (.bool sm) ∧ Ext W w' by
    have h := refSameB_any (encE x) (encE y) A A2 c c2 W h1 h2
    rw [enc_beq hx hy, ← hsm] at h
    exact h))
  obtain ⟨cz, hcz⟩ : ∃ cz, cz = cmpV (numsE x) (numsE y) := ⟨_, rfl⟩
  have HCM := Lib.hid (fun (W : World) => (show Calls Tryz.prog 19 #[.agg #[.int .i64 x.st.tick, .int .i64 x.st.clock, .int .i64 x.st.site, .int .i64 x.st.seq, .int .i64 x.kind, .int .i64 x.box.lo.x, .int .i64 x.box.lo.y, .int .i64 x.box.lo.z, .int .i64 x.box.hi.x, .int .i64 x.box.hi.y, .int .i64 x.box.hi.z, .int .i64 x.at_.x, .int .i64 x.at_.y, .int .i64 x.at_.z, .int .i64 x.turn, .int .i64 x.cell, .int .i64 x.size], .agg #[.int .i64 y.st.tick, .int .i64 y.st.clock, .int .i64 y.st.site, .int .i64 y.st.seq, .int .i64 y.kind, .int .i64 y.box.lo.x, .int .i64 y.box.lo.y, .int .i64 y.box.lo.z, .int .i64 y.box.hi.x, .int .i64 y.box.hi.y, .int .i64 y.box.hi.z, .int .i64 y.at_.x, .int .i64 y.at_.y, .int .i64 y.at_.z, .int .i64 y.turn, .int .i64 y.cell, .int .i64 y.size]] W fun e w' => e = .returned (.int .i64 cz) ∧ Ext W w' by
    rw [hcz]
    exact (CompareEd_any x y W).mono fun e w' ⟨h1, h2⟩ => ⟨h1, h2.ext⟩))
  have hz1 : decide (cz = 0) = sm := by rw [hcz, hsm]; exact cmp_beq x y
  have hz2 : (cz == 0) = sm := by rw [← hz1]; rfl
  have HZ1 := Lib.hid hz1
  have HZ2 := Lib.hid hz2
  clear hz1 hz2 hcz
  have hxy : ∀ W : World, (binOp .eql 29 (.agg #[.int .i64 x.st.tick, .int .i64 x.st.clock, .int .i64 x.st.site, .int .i64 x.st.seq, .int .i64 x.kind, .int .i64 x.box.lo.x, .int .i64 x.box.lo.y, .int .i64 x.box.lo.z, .int .i64 x.box.hi.x, .int .i64 x.box.hi.y, .int .i64 x.box.hi.z, .int .i64 x.at_.x, .int .i64 x.at_.y, .int .i64 x.at_.z, .int .i64 x.turn, .int .i64 x.cell, .int .i64 x.size]) (.agg #[.int .i64 y.st.tick, .int .i64 y.st.clock, .int .i64 y.st.site, .int .i64 y.st.seq, .int .i64 y.kind, .int .i64 y.box.lo.x, .int .i64 y.box.lo.y, .int .i64 y.box.lo.z, .int .i64 y.box.hi.x, .int .i64 y.box.hi.y, .int .i64 y.box.hi.z, .int .i64 y.at_.x, .int .i64 y.at_.y, .int .i64 y.at_.z, .int .i64 y.turn, .int .i64 y.cell, .int .i64 y.size])).run Tryz.prog W = .ok (.bool sm) W := by rw [hsm]; exact eqEd_run x y
  have HXY := Lib.hid hxy
  clear hxy hsm
  obtain ⟨z, ez, fx, hd1, hfz⟩ : ∃ z ez fx, decE (encE x) = (z, ez) ∧ formedE x = fx ∧ ((fx = true ∧ x = z ∧ ez = 0) ∨ (fx = false ∧ ez = 1)) := by
    have h := dec_enc hx
    cases hf : formedE x
    · rw [hf] at h; exact ⟨_, _, _, h, rfl, .inr ⟨rfl, rfl⟩⟩
    · rw [hf] at h; exact ⟨_, _, _, h, rfl, .inl ⟨rfl, rfl, rfl⟩⟩
  have hxl : (encE x).length ≤ 1000000 := by have := encE_len hx; omega
  have HD1 := Lib.hid (fun (A : Option Addr) (c : Nat) (W : World) (h : Sv W W.heap.size 1 A c (rowsB (encE x))) (hx : Ext w W) => k_dec (encE x) (encE x).length rfl z ez hd1 hxl A c W h (HR.out.ext hx))
  have HFx2 := Lib.hid (fun (W : World) (hx : Ext w W) => k_frm x fx hfz.1 W (HR.out.ext hx))
  have hfz := hfz.2
  clear hd hd1 hx hy hxl
  go_enter Tryz.func6, Tryz.ntmps6
  go_upto_region 1 with fail
  rw [← hW]
  clear hW
  go_upto_region 4 with (first
      | (refine wpList_load_blk 29 (.tmp 3) rfl rfl HBx.out rfl _ Tryz.underlying29 rfl (by kernel_rfl) ?_) | (refine wpList_load_blk 29 (.tmp 3) rfl rfl (HBx.out.alloc _) rfl _ Tryz.underlying29 rfl (by kernel_rfl) ?_) | (refine wpList_load_blk 29 (.tmp 3) rfl rfl ((HBx.out.alloc _).alloc _) rfl _ Tryz.underlying29 rfl (by kernel_rfl) ?_)
      | (go_at_call 25; refine (k_encX x HFx.out _).mono ?_; rintro e W1 ⟨A1, c1, rfl, hs1, xx⟩; have HBx := Lib.hid (HBx.out.ext xx); have HBy := Lib.hid (HBy.out.ext xx); have HXl := Lib.hid (HXl.out.trans xx); have HD := Lib.hid (HD1.out A1 c1 W1 hs1 HXl.out); clear xx hs1)
      | (go_at_call 29; refine (HD.out).mono ?_; rintro e W2 ⟨rfl, xx⟩; have HBx := Lib.hid (HBx.out.ext xx); have HBy := Lib.hid (HBy.out.ext xx); have HXl := Lib.hid (HXl.out.trans xx); clear xx)
      | (refine wpList_store_blk2 29 (.tmp 7) (.tmp 20) rfl rfl (Arr.new W2 29 [.int .i64 0, .int .i64 0, .int .i64 0, .int .i64 0, .int .i64 0, .int .i64 0, .int .i64 0, .int .i64 0, .int .i64 0, .int .i64 0, .int .i64 0, .int .i64 0, .int .i64 0, .int .i64 0, .int .i64 0, .int .i64 0, .int .i64 0]) [.int .i64 z.st.tick, .int .i64 z.st.clock, .int .i64 z.st.site, .int .i64 z.st.seq, .int .i64 z.kind, .int .i64 z.box.lo.x, .int .i64 z.box.lo.y, .int .i64 z.box.lo.z, .int .i64 z.box.hi.x, .int .i64 z.box.hi.y, .int .i64 z.box.hi.z, .int .i64 z.at_.x, .int .i64 z.at_.y, .int .i64 z.at_.z, .int .i64 z.turn, .int .i64 z.cell, .int .i64 z.size] rfl rfl (by kernel_rfl) rfl rfl rfl ?_; intro W3 hW; have HBz := Lib.hid (show Arr W3 W2.heap.size 29 [.int .i64 z.st.tick, .int .i64 z.st.clock, .int .i64 z.st.site, .int .i64 z.st.seq, .int .i64 z.kind, .int .i64 z.box.lo.x, .int .i64 z.box.lo.y, .int .i64 z.box.lo.z, .int .i64 z.box.hi.x, .int .i64 z.box.hi.y, .int .i64 z.box.hi.z, .int .i64 z.at_.x, .int .i64 z.at_.y, .int .i64 z.at_.z, .int .i64 z.turn, .int .i64 z.cell, .int .i64 z.size] by rw [hW]; exact (Arr.new W2 29 [.int .i64 0, .int .i64 0, .int .i64 0, .int .i64 0, .int .i64 0, .int .i64 0, .int .i64 0, .int .i64 0, .int .i64 0, .int .i64 0, .int .i64 0, .int .i64 0, .int .i64 0, .int .i64 0, .int .i64 0, .int .i64 0, .int .i64 0]).setRow [.int .i64 z.st.tick, .int .i64 z.st.clock, .int .i64 z.st.site, .int .i64 z.st.seq, .int .i64 z.kind, .int .i64 z.box.lo.x, .int .i64 z.box.lo.y, .int .i64 z.box.lo.z, .int .i64 z.box.hi.x, .int .i64 z.box.hi.y, .int .i64 z.box.hi.z, .int .i64 z.at_.x, .int .i64 z.at_.y, .int .i64 z.at_.z, .int .i64 z.turn, .int .i64 z.cell, .int .i64 z.size]); have HBx := Lib.hid (show Arr W3 w.heap.size 29 [.int .i64 x.st.tick, .int .i64 x.st.clock, .int .i64 x.st.site, .int .i64 x.st.seq, .int .i64 x.kind, .int .i64 x.box.lo.x, .int .i64 x.box.lo.y, .int .i64 x.box.lo.z, .int .i64 x.box.hi.x, .int .i64 x.box.hi.y, .int .i64 x.box.hi.z, .int .i64 x.at_.x, .int .i64 x.at_.y, .int .i64 x.at_.z, .int .i64 x.turn, .int .i64 x.cell, .int .i64 x.size] by rw [hW]; exact (HBx.out.alloc _).setRow_other (by have := HBx.out.lt; omega) _); have HBy := Lib.hid (show Arr W3 (w.heap.size + 1) 29 [.int .i64 y.st.tick, .int .i64 y.st.clock, .int .i64 y.st.site, .int .i64 y.st.seq, .int .i64 y.kind, .int .i64 y.box.lo.x, .int .i64 y.box.lo.y, .int .i64 y.box.lo.z, .int .i64 y.box.hi.x, .int .i64 y.box.hi.y, .int .i64 y.box.hi.z, .int .i64 y.at_.x, .int .i64 y.at_.y, .int .i64 y.at_.z, .int .i64 y.turn, .int .i64 y.cell, .int .i64 y.size] by rw [hW]; exact (HBy.out.alloc _).setRow_other (by have := HBy.out.lt; omega) _); have HXl := Lib.hid (show Ext w W3 by rw [hW]; exact (HXl.out.alloc _).setRow (g := W2.heap.size) HXl.out.size _); clear hW))
  obtain ⟨bz, hbz⟩ : ∃ b, b = W2.heap.size := ⟨_, rfl⟩
  rw [← hbz] at HBz
  rw [← hbz]
  clear hbz HD HD1
  have hne := Lib.hid (neqEd_run_same x)
  have HST : True := trivial
  rcases hfz with ⟨rfl, rfl, rfl⟩ | ⟨rfl, rfl⟩
  rotate_left
  focus
    go_upto_region 6 with (first
      | (refine wpList_load_blk_d 22 rfl 29 (.tmp 3) rfl rfl HBx.out rfl _ Tryz.underlying29 rfl (by kernel_rfl) ?_)
      | (refine wpList_load_blk_d 34 rfl 29 (.tmp 3) rfl rfl HBx.out rfl _ Tryz.underlying29 rfl (by kernel_rfl) ?_)
      | (go_at_call 13; refine (HFx2.out _ HXl.out).mono ?_; rintro e W3 ⟨rfl, xx⟩; have HBx := Lib.hid (HBx.out.ext xx); have HBy := Lib.hid (HBy.out.ext xx); have HXl := Lib.hid (HXl.out.trans xx); have HBz := Lib.hid (HBz.out.ext xx); clear xx))
  rotate_right
  focus
    go_upto_region 6 with (first
      | (refine wpList_cmp_d 27 rfl .neq 29 (.tmp 25) (.tmp 26) _ rfl rfl _ _ _ (by rfl) (by rfl) (by kernel_rfl) hne.out ?_)
      | (refine wpList_load_blk_d 22 rfl 29 (.tmp 3) rfl rfl HBx.out rfl _ Tryz.underlying29 rfl (by kernel_rfl) ?_)
      | (refine wpList_load_blk_d 25 rfl 29 (.tmp 7) rfl rfl HBz.out rfl _ Tryz.underlying29 rfl (by kernel_rfl) ?_)
      | (refine wpList_load_blk_d 26 rfl 29 (.tmp 3) rfl rfl HBx.out rfl _ Tryz.underlying29 rfl (by kernel_rfl) ?_)
      | (refine wpList_load_blk_d 34 rfl 29 (.tmp 3) rfl rfl HBx.out rfl _ Tryz.underlying29 rfl (by kernel_rfl) ?_)
      | (go_at_call 13; refine (HFx2.out _ HXl.out).mono ?_; rintro e W3 ⟨rfl, xx⟩; have HBx := Lib.hid (HBx.out.ext xx); have HBy := Lib.hid (HBy.out.ext xx); have HXl := Lib.hid (HXl.out.trans xx); have HBz := Lib.hid (HBz.out.ext xx); clear xx))
  all_goals
    clear hne HBz HFx2
    go_upto_region 7 with (first
        | (go_at_call 29; refine (HDl.out _ HXl.out).mono ?_; rintro e W4 ⟨rfl, xx⟩; have HBx := Lib.hid (HBx.out.ext xx); have HBy := Lib.hid (HBy.out.ext xx); have HXl := Lib.hid (HXl.out.trans xx); clear xx)
        | (refine wpList_store_blk2 29 (.tmp 9) (.tmp 45) rfl rfl (Arr.new W4 29 [.int .i64 0, .int .i64 0, .int .i64 0, .int .i64 0, .int .i64 0, .int .i64 0, .int .i64 0, .int .i64 0, .int .i64 0, .int .i64 0, .int .i64 0, .int .i64 0, .int .i64 0, .int .i64 0, .int .i64 0, .int .i64 0, .int .i64 0]) [.int .i64 u.st.tick, .int .i64 u.st.clock, .int .i64 u.st.site, .int .i64 u.st.seq, .int .i64 u.kind, .int .i64 u.box.lo.x, .int .i64 u.box.lo.y, .int .i64 u.box.lo.z, .int .i64 u.box.hi.x, .int .i64 u.box.hi.y, .int .i64 u.box.hi.z, .int .i64 u.at_.x, .int .i64 u.at_.y, .int .i64 u.at_.z, .int .i64 u.turn, .int .i64 u.cell, .int .i64 u.size] rfl rfl (by kernel_rfl) rfl rfl rfl ?_; intro W5 hW; have HBu := Lib.hid (show Arr W5 W4.heap.size 29 [.int .i64 u.st.tick, .int .i64 u.st.clock, .int .i64 u.st.site, .int .i64 u.st.seq, .int .i64 u.kind, .int .i64 u.box.lo.x, .int .i64 u.box.lo.y, .int .i64 u.box.lo.z, .int .i64 u.box.hi.x, .int .i64 u.box.hi.y, .int .i64 u.box.hi.z, .int .i64 u.at_.x, .int .i64 u.at_.y, .int .i64 u.at_.z, .int .i64 u.turn, .int .i64 u.cell, .int .i64 u.size] by rw [hW]; exact (Arr.new W4 29 [.int .i64 0, .int .i64 0, .int .i64 0, .int .i64 0, .int .i64 0, .int .i64 0, .int .i64 0, .int .i64 0, .int .i64 0, .int .i64 0, .int .i64 0, .int .i64 0, .int .i64 0, .int .i64 0, .int .i64 0, .int .i64 0, .int .i64 0]).setRow [.int .i64 u.st.tick, .int .i64 u.st.clock, .int .i64 u.st.site, .int .i64 u.st.seq, .int .i64 u.kind, .int .i64 u.box.lo.x, .int .i64 u.box.lo.y, .int .i64 u.box.lo.z, .int .i64 u.box.hi.x, .int .i64 u.box.hi.y, .int .i64 u.box.hi.z, .int .i64 u.at_.x, .int .i64 u.at_.y, .int .i64 u.at_.z, .int .i64 u.turn, .int .i64 u.cell, .int .i64 u.size]); have HBx := Lib.hid (show Arr W5 w.heap.size 29 [.int .i64 x.st.tick, .int .i64 x.st.clock, .int .i64 x.st.site, .int .i64 x.st.seq, .int .i64 x.kind, .int .i64 x.box.lo.x, .int .i64 x.box.lo.y, .int .i64 x.box.lo.z, .int .i64 x.box.hi.x, .int .i64 x.box.hi.y, .int .i64 x.box.hi.z, .int .i64 x.at_.x, .int .i64 x.at_.y, .int .i64 x.at_.z, .int .i64 x.turn, .int .i64 x.cell, .int .i64 x.size] by rw [hW]; exact (HBx.out.alloc _).setRow_other (by have := HBx.out.lt; omega) _); have HBy := Lib.hid (show Arr W5 (w.heap.size + 1) 29 [.int .i64 y.st.tick, .int .i64 y.st.clock, .int .i64 y.st.site, .int .i64 y.st.seq, .int .i64 y.kind, .int .i64 y.box.lo.x, .int .i64 y.box.lo.y, .int .i64 y.box.lo.z, .int .i64 y.box.hi.x, .int .i64 y.box.hi.y, .int .i64 y.box.hi.z, .int .i64 y.at_.x, .int .i64 y.at_.y, .int .i64 y.at_.z, .int .i64 y.turn, .int .i64 y.cell, .int .i64 y.size] by rw [hW]; exact (HBy.out.alloc _).setRow_other (by have := HBy.out.lt; omega) _); have HXl := Lib.hid (show Ext w W5 by rw [hW]; exact (HXl.out.alloc _).setRow (g := W4.heap.size) HXl.out.size _); clear hW))
    obtain ⟨bu, hbu⟩ : ∃ b, b = W4.heap.size := ⟨_, rfl⟩
    rw [← hbu] at HBu
    rw [← hbu]
    clear hbu HDl
    by_cases h0 : f = 0
    all_goals
      try have HU := Lib.hid (HBK.out h0)
      try have HU1 := Lib.hid (k_encX u HU.out.2.2)
      try have HU2 := Lib.hid (fun (A1 : Option Addr) (c1 : Nat) (W : World) (hs : Sv W W.heap.size 1 A1 c1 (rowsB (encE u))) (hx : Ext w W) => (show Calls Tryz.prog 24 #[.slice A1 (encE u).length c1, .slice A l.length c] W fun e w' => e = .returned (.bool true) ∧ Ext W w' by
        have h := refSameB_any (encE u) l A1 A c1 c W hs (HS.out.ext hx)
        rw [HU.out.1, beq_self_eq_true] at h
        rw [HU.out.1]
        exact h))
      try have HU3 := Lib.hid (fun (W : World) (hx : Ext w W) => k_frm u true HU.out.2.1 W (HR.out.ext hx))
      try clear HU
      clear HBK
      go_upto_region 9 with (first
          | (refine wpList_load_blk_d 50 rfl 29 (.tmp 9) rfl rfl HBu.out rfl _ Tryz.underlying29 rfl (by kernel_rfl) ?_)
          | (refine wpList_load_blk_d 56 rfl 29 (.tmp 9) rfl rfl HBu.out rfl _ Tryz.underlying29 rfl (by kernel_rfl) ?_)
          | (go_at_call 25; refine (HU1.out _).mono ?_; rintro e W6 ⟨A6, c6, rfl, hs6, xx⟩; have HBx := Lib.hid (HBx.out.ext xx); have HBy := Lib.hid (HBy.out.ext xx); have HXl := Lib.hid (HXl.out.trans xx); have HBu := Lib.hid (HBu.out.ext xx); have HU4 := Lib.hid (HU2.out A6 c6 W6 hs6 HXl.out); clear xx hs6)
          | (go_at_call 24; refine (HU4.out).mono ?_; rintro e W7 ⟨rfl, xx⟩; have HBx := Lib.hid (HBx.out.ext xx); have HBy := Lib.hid (HBy.out.ext xx); have HXl := Lib.hid (HXl.out.trans xx); have HBu := Lib.hid (HBu.out.ext xx); clear xx)
          | (go_at_call 13; refine (HU3.out _ HXl.out).mono ?_; rintro e W8 ⟨rfl, xx⟩; have HBx := Lib.hid (HBx.out.ext xx); have HBy := Lib.hid (HBy.out.ext xx); have HXl := Lib.hid (HXl.out.trans xx); have HBu := Lib.hid (HBu.out.ext xx); clear xx))
      go_upto_region 10 with (first
          | (refine wpList_cmp .eql 29 (.tmp 61) (.tmp 62) _ rfl rfl _ _ _ (by rfl) (by rfl) (by kernel_rfl) HXY.out ?_)
          | (refine wpList_load_blk 29 (.tmp 3) rfl rfl HBx.out rfl _ Tryz.underlying29 rfl (by kernel_rfl) ?_) | (refine wpList_load_blk 29 (.tmp 3) rfl rfl (HBx.out.alloc _) rfl _ Tryz.underlying29 rfl (by kernel_rfl) ?_) | (refine wpList_load_blk 29 (.tmp 3) rfl rfl ((HBx.out.alloc _).alloc _) rfl _ Tryz.underlying29 rfl (by kernel_rfl) ?_)
          | (refine wpList_load_blk 29 (.tmp 4) rfl rfl HBy.out rfl _ Tryz.underlying29 rfl (by kernel_rfl) ?_) | (refine wpList_load_blk 29 (.tmp 4) rfl rfl (HBy.out.alloc _) rfl _ Tryz.underlying29 rfl (by kernel_rfl) ?_) | (refine wpList_load_blk 29 (.tmp 4) rfl rfl ((HBy.out.alloc _).alloc _) rfl _ Tryz.underlying29 rfl (by kernel_rfl) ?_))
      have hz1 := HZ1.out
      have hz2 := HZ2.out
      refine wp_region_rel (fun i v w' => match i with
          | 0 => v = .bool true
          | 1 => v = .bool true
          | 2 => v = .agg #[.int .i64 x.st.tick, .int .i64 x.st.clock, .int .i64 x.st.site, .int .i64 x.st.seq, .int .i64 x.kind, .int .i64 x.box.lo.x, .int .i64 x.box.lo.y, .int .i64 x.box.lo.z, .int .i64 x.box.hi.x, .int .i64 x.box.hi.y, .int .i64 x.box.hi.z, .int .i64 x.at_.x, .int .i64 x.at_.y, .int .i64 x.at_.z, .int .i64 x.turn, .int .i64 x.cell, .int .i64 x.size]
          | 3 => ∃ A7 c7, v = .slice A7 (encE x).length c7 ∧ Sv w' w'.heap.size 1 A7 c7 (rowsB (encE x))
          | 4 => v = .agg #[.int .i64 y.st.tick, .int .i64 y.st.clock, .int .i64 y.st.site, .int .i64 y.st.seq, .int .i64 y.kind, .int .i64 y.box.lo.x, .int .i64 y.box.lo.y, .int .i64 y.box.lo.z, .int .i64 y.box.hi.x, .int .i64 y.box.hi.y, .int .i64 y.box.hi.z, .int .i64 y.at_.x, .int .i64 y.at_.y, .int .i64 y.at_.z, .int .i64 y.turn, .int .i64 y.cell, .int .i64 y.size]
          | 5 => ∃ A7 c7, v = .slice A7 (encE y).length c7 ∧ Sv w' w'.heap.size 1 A7 c7 (rowsB (encE y))
          | 6 => v = .bool sm
          | 7 => v = .bool sm
          | 8 => v = .bool true
          | 9 => v = .bool true
          | 10 => v = .bool true
          | 11 => v = .agg #[.int .i64 x.st.tick, .int .i64 x.st.clock, .int .i64 x.st.site, .int .i64 x.st.seq, .int .i64 x.kind, .int .i64 x.box.lo.x, .int .i64 x.box.lo.y, .int .i64 x.box.lo.z, .int .i64 x.box.hi.x, .int .i64 x.box.hi.y, .int .i64 x.box.hi.z, .int .i64 x.at_.x, .int .i64 x.at_.y, .int .i64 x.at_.z, .int .i64 x.turn, .int .i64 x.cell, .int .i64 x.size]
          | 12 => v = .agg #[.int .i64 y.st.tick, .int .i64 y.st.clock, .int .i64 y.st.site, .int .i64 y.st.seq, .int .i64 y.kind, .int .i64 y.box.lo.x, .int .i64 y.box.lo.y, .int .i64 y.box.lo.z, .int .i64 y.box.hi.x, .int .i64 y.box.hi.y, .int .i64 y.box.hi.z, .int .i64 y.at_.x, .int .i64 y.at_.y, .int .i64 y.at_.z, .int .i64 y.turn, .int .i64 y.cell, .int .i64 y.size]
          | 13 => v = .int .i64 cz
          | 14 => v = .bool sm
          | 15 => v = .bool sm
          | 16 => v = .bool true
          | 17 => v = .bool true
          | 18 => v = .bool true
          | _ => True) hm (by kernel_rfl) (by kernel_rfl) rfl ?_ ?_ ?_
      · intro i v w1 w2 hx h
        match i, h with
        | 0, h => exact h
        | 1, h => exact h
        | 2, h => exact h
        | 3, h => exact (fun ⟨A7, c7, h1, h2⟩ => ⟨A7, c7, h1, h2.ext hx⟩) h
        | 4, h => exact h
        | 5, h => exact (fun ⟨A7, c7, h1, h2⟩ => ⟨A7, c7, h1, h2.ext hx⟩) h
        | 6, h => exact h
        | 7, h => exact h
        | 8, h => exact h
        | 9, h => exact h
        | 10, h => exact h
        | 11, h => exact h
        | 12, h => exact h
        | 13, h => exact h
        | 14, h => exact h
        | 15, h => exact h
        | 16, h => exact h
        | 17, h => exact h
        | 18, h => exact h
        | i + 19, h => exact h
      · intro i o ho b w1 hx hmiss hdep K hK
        match i, ho with
        | 0, ho =>
          obtain rfl := Option.some.inj ho
          refine want_none rfl ?_
          have hc : Calls Tryz.prog 10 #[] w1 fun e w' => ∃ v, e = .returned v ∧ Ext w1 w' ∧ (v = .bool true) := (sanity_any w1 (HR.out.ext (HXl.out.trans hx))).mono fun e w2 ⟨h1, h2⟩ => ⟨_, h1, h2, rfl⟩
          exact op_call (G := fun v w' => v = .bool true) (vs := #[]) rfl (by simp) (fun _ _ => by kernel_rfl) hc (fun v w' h1 h2 => hK v w' h1 h2)
        | 1, ho =>
          obtain rfl := Option.some.inj ho
          obtain ⟨v64, g64, e64⟩ := hdep 0 rfl
          obtain rfl := g64
          have e64 := e64 64 rfl
          refine want_none rfl ?_
          exact op_move rfl (eval_of e64) (hK _ w1 (Ext.refl _) rfl)
        | 2, ho =>
          obtain rfl := Option.some.inj ho
          have e3 : b.tmps[3]? = some (.pointer (some ⟨w.heap.size, 0, none⟩)) := hmiss 3 rfl
          obtain ⟨vg, gg, eg⟩ := hdep 1 rfl
          have gg : vg = .bool true := gg
          subst gg
          have eg := eg 65 rfl
          refine want_yes rfl rfl eg ?_
          exact op_loadrow rfl (eval_of e3) (HBx.out.ext hx) _ Tryz.underlying29 rfl (by kernel_rfl) (hK _ w1 (Ext.refl _) rfl)
        | 3, ho =>
          obtain rfl := Option.some.inj ho
          obtain ⟨v66, g66, e66⟩ := hdep 2 rfl
          have g66 : v66 = .agg #[.int .i64 x.st.tick, .int .i64 x.st.clock, .int .i64 x.st.site, .int .i64 x.st.seq, .int .i64 x.kind, .int .i64 x.box.lo.x, .int .i64 x.box.lo.y, .int .i64 x.box.lo.z, .int .i64 x.box.hi.x, .int .i64 x.box.hi.y, .int .i64 x.box.hi.z, .int .i64 x.at_.x, .int .i64 x.at_.y, .int .i64 x.at_.z, .int .i64 x.turn, .int .i64 x.cell, .int .i64 x.size] := g66
          subst g66
          have e66 := e66 66 rfl
          obtain ⟨vg, gg, eg⟩ := hdep 1 rfl
          have gg : vg = .bool true := gg
          subst gg
          have eg := eg 65 rfl
          refine want_yes rfl rfl eg ?_
          have hc : Calls Tryz.prog 25 #[.agg #[.int .i64 x.st.tick, .int .i64 x.st.clock, .int .i64 x.st.site, .int .i64 x.st.seq, .int .i64 x.kind, .int .i64 x.box.lo.x, .int .i64 x.box.lo.y, .int .i64 x.box.lo.z, .int .i64 x.box.hi.x, .int .i64 x.box.hi.y, .int .i64 x.box.hi.z, .int .i64 x.at_.x, .int .i64 x.at_.y, .int .i64 x.at_.z, .int .i64 x.turn, .int .i64 x.cell, .int .i64 x.size]] w1 fun e w' => ∃ v, e = .returned v ∧ Ext w1 w' ∧ (∃ A7 c7, v = .slice A7 (encE x).length c7 ∧ Sv w' w'.heap.size 1 A7 c7 (rowsB (encE x))) := (k_encX x HFx.out w1).mono fun e w2 ⟨A7, c7, h1, h2, h3⟩ => ⟨_, h1, h3, A7, c7, rfl, h2⟩
          exact op_call (G := fun v w' => ∃ A7 c7, v = .slice A7 (encE x).length c7 ∧ Sv w' w'.heap.size 1 A7 c7 (rowsB (encE x))) rfl (by simp [eval_of e66]) (fun _ _ => by kernel_rfl) hc (fun v w' h1 h2 => hK v w' h1 h2)
        | 4, ho =>
          obtain rfl := Option.some.inj ho
          have e4 : b.tmps[4]? = some (.pointer (some ⟨w.heap.size + 1, 0, none⟩)) := hmiss 4 rfl
          obtain ⟨vg, gg, eg⟩ := hdep 1 rfl
          have gg : vg = .bool true := gg
          subst gg
          have eg := eg 65 rfl
          refine want_yes rfl rfl eg ?_
          exact op_loadrow rfl (eval_of e4) (HBy.out.ext hx) _ Tryz.underlying29 rfl (by kernel_rfl) (hK _ w1 (Ext.refl _) rfl)
        | 5, ho =>
          obtain rfl := Option.some.inj ho
          obtain ⟨v68, g68, e68⟩ := hdep 4 rfl
          have g68 : v68 = .agg #[.int .i64 y.st.tick, .int .i64 y.st.clock, .int .i64 y.st.site, .int .i64 y.st.seq, .int .i64 y.kind, .int .i64 y.box.lo.x, .int .i64 y.box.lo.y, .int .i64 y.box.lo.z, .int .i64 y.box.hi.x, .int .i64 y.box.hi.y, .int .i64 y.box.hi.z, .int .i64 y.at_.x, .int .i64 y.at_.y, .int .i64 y.at_.z, .int .i64 y.turn, .int .i64 y.cell, .int .i64 y.size] := g68
          subst g68
          have e68 := e68 68 rfl
          obtain ⟨vg, gg, eg⟩ := hdep 1 rfl
          have gg : vg = .bool true := gg
          subst gg
          have eg := eg 65 rfl
          refine want_yes rfl rfl eg ?_
          have hc : Calls Tryz.prog 25 #[.agg #[.int .i64 y.st.tick, .int .i64 y.st.clock, .int .i64 y.st.site, .int .i64 y.st.seq, .int .i64 y.kind, .int .i64 y.box.lo.x, .int .i64 y.box.lo.y, .int .i64 y.box.lo.z, .int .i64 y.box.hi.x, .int .i64 y.box.hi.y, .int .i64 y.box.hi.z, .int .i64 y.at_.x, .int .i64 y.at_.y, .int .i64 y.at_.z, .int .i64 y.turn, .int .i64 y.cell, .int .i64 y.size]] w1 fun e w' => ∃ v, e = .returned v ∧ Ext w1 w' ∧ (∃ A7 c7, v = .slice A7 (encE y).length c7 ∧ Sv w' w'.heap.size 1 A7 c7 (rowsB (encE y))) := (k_encX y HFy.out w1).mono fun e w2 ⟨A7, c7, h1, h2, h3⟩ => ⟨_, h1, h3, A7, c7, rfl, h2⟩
          exact op_call (G := fun v w' => ∃ A7 c7, v = .slice A7 (encE y).length c7 ∧ Sv w' w'.heap.size 1 A7 c7 (rowsB (encE y))) rfl (by simp [eval_of e68]) (fun _ _ => by kernel_rfl) hc (fun v w' h1 h2 => hK v w' h1 h2)
        | 6, ho =>
          obtain rfl := Option.some.inj ho
          obtain ⟨v67, g67, e67⟩ := hdep 3 rfl
          obtain ⟨A8, c8, rfl, hS8⟩ := g67
          have e67 := e67 67 rfl
          obtain ⟨v69, g69, e69⟩ := hdep 5 rfl
          obtain ⟨A9, c9, rfl, hS9⟩ := g69
          have e69 := e69 69 rfl
          obtain ⟨vg, gg, eg⟩ := hdep 1 rfl
          have gg : vg = .bool true := gg
          subst gg
          have eg := eg 65 rfl
          refine want_yes rfl rfl eg ?_
          have hc : Calls Tryz.prog 24 #[.slice A8 (encE x).length c8, .slice A9 (encE y).length c9] w1 fun e w' => ∃ v, e = .returned v ∧ Ext w1 w' ∧ (v = .bool sm) := (HSM.out A8 A9 c8 c9 w1 hS8 hS9).mono fun e w2 ⟨h1, h2⟩ => ⟨_, h1, h2, rfl⟩
          exact op_call (G := fun v w' => v = .bool sm) rfl (by simp [eval_of e67, eval_of e69]) (fun _ _ => by kernel_rfl) hc (fun v w' h1 h2 => hK v w' h1 h2)
        | 7, ho =>
          obtain rfl := Option.some.inj ho
          have e11 : b.tmps[11]? = some (.bool sm) := hmiss 11 rfl
          obtain ⟨vg, gg, eg⟩ := hdep 1 rfl
          have gg : vg = .bool true := gg
          subst gg
          have eg := eg 65 rfl
          refine want_yes rfl rfl eg ?_
          exact op_move rfl (eval_of e11) (hK _ w1 (Ext.refl _) rfl)
        | 8, ho =>
          obtain rfl := Option.some.inj ho
          obtain ⟨v70, g70, e70⟩ := hdep 6 rfl
          obtain rfl := g70
          have e70 := e70 70 rfl
          obtain ⟨v71, g71, e71⟩ := hdep 7 rfl
          have g71 : v71 = .bool sm := g71
          subst g71
          have e71 := e71 71 rfl
          obtain ⟨vg, gg, eg⟩ := hdep 1 rfl
          have gg : vg = .bool true := gg
          subst gg
          have eg := eg 65 rfl
          refine want_yes rfl rfl eg ?_
          exact op_run (by unfold execOp; simp [e70, e71, Act.eval, go_sem]) (hK _ w1 (Ext.refl _) rfl)
        | 9, ho =>
          obtain rfl := Option.some.inj ho
          obtain ⟨v65, g65, e65⟩ := hdep 1 rfl
          have g65 : v65 = .bool true := g65
          subst g65
          have e65 := e65 65 rfl
          obtain ⟨v72, g72, e72⟩ := hdep 8 rfl
          have g72 : v72 = .bool true := g72
          subst g72
          have e72 := e72 72 rfl
          refine want_none rfl ?_
          exact op_run (by unfold execOp; simp [e65, e72, Act.eval, go_sem]) (hK _ w1 (Ext.refl _) rfl)
        | 10, ho =>
          obtain rfl := Option.some.inj ho
          obtain ⟨v73, g73, e73⟩ := hdep 9 rfl
          have g73 : v73 = .bool true := g73
          subst g73
          have e73 := e73 73 rfl
          refine want_none rfl ?_
          exact op_move rfl (eval_of e73) (hK _ w1 (Ext.refl _) rfl)
        | 11, ho =>
          obtain rfl := Option.some.inj ho
          have e3 : b.tmps[3]? = some (.pointer (some ⟨w.heap.size, 0, none⟩)) := hmiss 3 rfl
          obtain ⟨vg, gg, eg⟩ := hdep 10 rfl
          have gg : vg = .bool true := gg
          subst gg
          have eg := eg 74 rfl
          refine want_yes rfl rfl eg ?_
          exact op_loadrow rfl (eval_of e3) (HBx.out.ext hx) _ Tryz.underlying29 rfl (by kernel_rfl) (hK _ w1 (Ext.refl _) rfl)
        | 12, ho =>
          obtain rfl := Option.some.inj ho
          have e4 : b.tmps[4]? = some (.pointer (some ⟨w.heap.size + 1, 0, none⟩)) := hmiss 4 rfl
          obtain ⟨vg, gg, eg⟩ := hdep 10 rfl
          have gg : vg = .bool true := gg
          subst gg
          have eg := eg 74 rfl
          refine want_yes rfl rfl eg ?_
          exact op_loadrow rfl (eval_of e4) (HBy.out.ext hx) _ Tryz.underlying29 rfl (by kernel_rfl) (hK _ w1 (Ext.refl _) rfl)
        | 13, ho =>
          obtain rfl := Option.some.inj ho
          obtain ⟨v75, g75, e75⟩ := hdep 11 rfl
          have g75 : v75 = .agg #[.int .i64 x.st.tick, .int .i64 x.st.clock, .int .i64 x.st.site, .int .i64 x.st.seq, .int .i64 x.kind, .int .i64 x.box.lo.x, .int .i64 x.box.lo.y, .int .i64 x.box.lo.z, .int .i64 x.box.hi.x, .int .i64 x.box.hi.y, .int .i64 x.box.hi.z, .int .i64 x.at_.x, .int .i64 x.at_.y, .int .i64 x.at_.z, .int .i64 x.turn, .int .i64 x.cell, .int .i64 x.size] := g75
          subst g75
          have e75 := e75 75 rfl
          obtain ⟨v76, g76, e76⟩ := hdep 12 rfl
          have g76 : v76 = .agg #[.int .i64 y.st.tick, .int .i64 y.st.clock, .int .i64 y.st.site, .int .i64 y.st.seq, .int .i64 y.kind, .int .i64 y.box.lo.x, .int .i64 y.box.lo.y, .int .i64 y.box.lo.z, .int .i64 y.box.hi.x, .int .i64 y.box.hi.y, .int .i64 y.box.hi.z, .int .i64 y.at_.x, .int .i64 y.at_.y, .int .i64 y.at_.z, .int .i64 y.turn, .int .i64 y.cell, .int .i64 y.size] := g76
          subst g76
          have e76 := e76 76 rfl
          obtain ⟨vg, gg, eg⟩ := hdep 10 rfl
          have gg : vg = .bool true := gg
          subst gg
          have eg := eg 74 rfl
          refine want_yes rfl rfl eg ?_
          have hc : Calls Tryz.prog 19 #[.agg #[.int .i64 x.st.tick, .int .i64 x.st.clock, .int .i64 x.st.site, .int .i64 x.st.seq, .int .i64 x.kind, .int .i64 x.box.lo.x, .int .i64 x.box.lo.y, .int .i64 x.box.lo.z, .int .i64 x.box.hi.x, .int .i64 x.box.hi.y, .int .i64 x.box.hi.z, .int .i64 x.at_.x, .int .i64 x.at_.y, .int .i64 x.at_.z, .int .i64 x.turn, .int .i64 x.cell, .int .i64 x.size], .agg #[.int .i64 y.st.tick, .int .i64 y.st.clock, .int .i64 y.st.site, .int .i64 y.st.seq, .int .i64 y.kind, .int .i64 y.box.lo.x, .int .i64 y.box.lo.y, .int .i64 y.box.lo.z, .int .i64 y.box.hi.x, .int .i64 y.box.hi.y, .int .i64 y.box.hi.z, .int .i64 y.at_.x, .int .i64 y.at_.y, .int .i64 y.at_.z, .int .i64 y.turn, .int .i64 y.cell, .int .i64 y.size]] w1 fun e w' => ∃ v, e = .returned v ∧ Ext w1 w' ∧ (v = .int .i64 cz) := (HCM.out w1).mono fun e w2 ⟨h1, h2⟩ => ⟨_, h1, h2, rfl⟩
          exact op_call (G := fun v w' => v = .int .i64 cz) rfl (by simp [eval_of e75, eval_of e76]) (fun _ _ => by kernel_rfl) hc (fun v w' h1 h2 => hK v w' h1 h2)
        | 14, ho =>
          obtain rfl := Option.some.inj ho
          obtain ⟨v77, g77, e77⟩ := hdep 13 rfl
          obtain rfl := g77
          have e77 := e77 77 rfl
          obtain ⟨vg, gg, eg⟩ := hdep 10 rfl
          have gg : vg = .bool true := gg
          subst gg
          have eg := eg 74 rfl
          refine want_yes rfl rfl eg ?_
          exact op_run (by unfold execOp; simp [e77, Act.eval, go_sem, hz2]) (hK _ w1 (Ext.refl _) rfl)
        | 15, ho =>
          obtain rfl := Option.some.inj ho
          have e11 : b.tmps[11]? = some (.bool sm) := hmiss 11 rfl
          obtain ⟨vg, gg, eg⟩ := hdep 10 rfl
          have gg : vg = .bool true := gg
          subst gg
          have eg := eg 74 rfl
          refine want_yes rfl rfl eg ?_
          exact op_move rfl (eval_of e11) (hK _ w1 (Ext.refl _) rfl)
        | 16, ho =>
          obtain rfl := Option.some.inj ho
          obtain ⟨v78, g78, e78⟩ := hdep 14 rfl
          have g78 : v78 = .bool sm := g78
          subst g78
          have e78 := e78 78 rfl
          obtain ⟨v79, g79, e79⟩ := hdep 15 rfl
          have g79 : v79 = .bool sm := g79
          subst g79
          have e79 := e79 79 rfl
          obtain ⟨vg, gg, eg⟩ := hdep 10 rfl
          have gg : vg = .bool true := gg
          subst gg
          have eg := eg 74 rfl
          refine want_yes rfl rfl eg ?_
          exact op_run (by unfold execOp; simp [e78, e79, Act.eval, go_sem]) (hK _ w1 (Ext.refl _) rfl)
        | 17, ho =>
          obtain rfl := Option.some.inj ho
          obtain ⟨v74, g74, e74⟩ := hdep 10 rfl
          have g74 : v74 = .bool true := g74
          subst g74
          have e74 := e74 74 rfl
          obtain ⟨v80, g80, e80⟩ := hdep 16 rfl
          have g80 : v80 = .bool true := g80
          subst g80
          have e80 := e80 80 rfl
          refine want_none rfl ?_
          exact op_run (by unfold execOp; simp [e74, e80, Act.eval, go_sem]) (hK _ w1 (Ext.refl _) rfl)
        | 18, ho =>
          obtain rfl := Option.some.inj ho
          obtain ⟨v81, g81, e81⟩ := hdep 17 rfl
          have g81 : v81 = .bool true := g81
          subst g81
          have e81 := e81 81 rfl
          refine want_none rfl ?_
          exact op_assign rfl (eval_of e81) (hK _ w1 (Ext.refl _) rfl)
        | i + 19, ho => cases ho
      · intro V w9 hx hg
        have g1 : V 1 = .bool true := hg 1 (by decide)
        have g2 : V 2 = .agg #[.int .i64 x.st.tick, .int .i64 x.st.clock, .int .i64 x.st.site, .int .i64 x.st.seq, .int .i64 x.kind, .int .i64 x.box.lo.x, .int .i64 x.box.lo.y, .int .i64 x.box.lo.z, .int .i64 x.box.hi.x, .int .i64 x.box.hi.y, .int .i64 x.box.hi.z, .int .i64 x.at_.x, .int .i64 x.at_.y, .int .i64 x.at_.z, .int .i64 x.turn, .int .i64 x.cell, .int .i64 x.size] := hg 2 (by decide)
        have g4 : V 4 = .agg #[.int .i64 y.st.tick, .int .i64 y.st.clock, .int .i64 y.st.site, .int .i64 y.st.seq, .int .i64 y.kind, .int .i64 y.box.lo.x, .int .i64 y.box.lo.y, .int .i64 y.box.lo.z, .int .i64 y.box.hi.x, .int .i64 y.box.hi.y, .int .i64 y.box.hi.z, .int .i64 y.at_.x, .int .i64 y.at_.y, .int .i64 y.at_.z, .int .i64 y.turn, .int .i64 y.cell, .int .i64 y.size] := hg 4 (by decide)
        have g7 : V 7 = .bool sm := hg 7 (by decide)
        have g8 : V 8 = .bool true := hg 8 (by decide)
        have g9 : V 9 = .bool true := hg 9 (by decide)
        have g10 : V 10 = .bool true := hg 10 (by decide)
        have g11 : V 11 = .agg #[.int .i64 x.st.tick, .int .i64 x.st.clock, .int .i64 x.st.site, .int .i64 x.st.seq, .int .i64 x.kind, .int .i64 x.box.lo.x, .int .i64 x.box.lo.y, .int .i64 x.box.lo.z, .int .i64 x.box.hi.x, .int .i64 x.box.hi.y, .int .i64 x.box.hi.z, .int .i64 x.at_.x, .int .i64 x.at_.y, .int .i64 x.at_.z, .int .i64 x.turn, .int .i64 x.cell, .int .i64 x.size] := hg 11 (by decide)
        have g12 : V 12 = .agg #[.int .i64 y.st.tick, .int .i64 y.st.clock, .int .i64 y.st.site, .int .i64 y.st.seq, .int .i64 y.kind, .int .i64 y.box.lo.x, .int .i64 y.box.lo.y, .int .i64 y.box.lo.z, .int .i64 y.box.hi.x, .int .i64 y.box.hi.y, .int .i64 y.box.hi.z, .int .i64 y.at_.x, .int .i64 y.at_.y, .int .i64 y.at_.z, .int .i64 y.turn, .int .i64 y.cell, .int .i64 y.size] := hg 12 (by decide)
        have g14 : V 14 = .bool sm := hg 14 (by decide)
        have g15 : V 15 = .bool sm := hg 15 (by decide)
        have g16 : V 16 = .bool true := hg 16 (by decide)
        have g17 : V 17 = .bool true := hg 17 (by decide)
        have g18 : V 18 = .bool true := hg 18 (by decide)
        have g0 := hg 0 (by decide)
        have g3 := hg 3 (by decide)
        have g5 := hg 5 (by decide)
        have g6 := hg 6 (by decide)
        have g13 := hg 13 (by decide)
        simp only [List.length_cons, List.length_nil, fillAllN, dstOf, Act.put, List.getElem?_toArray, List.getElem?_cons_zero, List.getElem?_cons_succ, Option.bind_some, g1, g2, g4, g7, g8, g9, g10, g11, g12, g14, g15, g16, g17, g18, List.setIfInBounds_toArray, List.set_cons_zero, List.set_cons_succ]
        clear g1 g2 g4 g7 g8 g9 g10 g11 g12 g14 g15 g16 g17 g18 hg
        go_wp2_with fail
        go_ret
        exact ⟨rfl, HXl.out.trans hx⟩
end Go.Proofs.YtlinhgannajfpaaGreatDoor

/- EditRoundTrip: for every input the law returns true, and each argument reads as it did. No condition. -/
namespace Go.Proofs.YtlinhgannajfpaaGreatDoor
open Go Go.RowKit Go.ChangeShapes Go.WideShapes Go.ChangeAt

set_option maxHeartbeats 1600000 in
set_option maxRecDepth 100000 in
theorem editRoundTrip_lifted (os : Os) (started : os.Started) (H : Type) (enc : TypeId × Value → H) :
    ReturnsInHanded {} Tryz.checked os 6 .any (fun w args => (Rows.editRoundTripSpec.pre enc Tryz.prog Tryz.f6 Rows.editRoundTripRow.domain false w args ∧ laidMetH Tryz.prog laidL w) ∧ sizedMet enc Tryz.prog Tryz.f6 (OpenSpec.ofChange Rows.editRoundTripSpec) false w args) (Rows.editRoundTripSpec.post enc Tryz.prog Tryz.f6 false true false false) := by
  refine returnsInHanded_of_change_and (C := Tryz.checked) (X := fun w _ => laidMetH Tryz.prog laidL w) (fun _ _ _ hh h => h.of_heap hh) own_ started (by kernel_rfl) Tryz.func6
    (ChangeSpec.witness_shaped (enc := enc) (C := Tryz.checked) (os := os) (X := fun w _ => laidMetH Tryz.prog laidL w) false (World.laidAll Tryz.prog os laidL) #[.agg #[.int .i64 0, .int .i64 0, .int .i64 0, .int .i64 0, .int .i64 0, .int .i64 0, .int .i64 0, .int .i64 0, .int .i64 0, .int .i64 0, .int .i64 0, .int .i64 0, .int .i64 0, .int .i64 0, .int .i64 0, .int .i64 0, .int .i64 0], .agg #[.int .i64 0, .int .i64 0, .int .i64 0, .int .i64 0, .int .i64 0, .int .i64 0, .int .i64 0, .int .i64 0, .int .i64 0, .int .i64 0, .int .i64 0, .int .i64 0, .int .i64 0, .int .i64 0, .int .i64 0, .int .i64 0, .int .i64 0], .slice none 0 0] 8 (World.laidAll_os _ _ _) (World.shaped_of_ZipB (by kernel_rfl) (by kernel_rfl)) (by kernel_rfl) (by kernel_rfl) (by kernel_rfl)
      (by rw [MakeChecks.laidMetH_plain _ _ _ (by kernel_rfl)]; exact laidMet_laidAll _ (by kernel_rfl) (by kernel_rfl))) ?_
  intro W base args ds gs before hval0 hW hcnd _ hLd _
  have hval : ∀ (j : Nat) t v, Tryz.f6.params[j]? = some t → args[j]? = some v → Value.okWide Tryz.prog W .any base t v := hval0
  have hLd := laid_of hLd
  have hW' := hW
  obtain ⟨p, q, hA0, hV, rfl, hfz, hnd⟩ := hW
  have hA : DataW.TrodAll enc Tryz.prog W 0 (fun _ => true) true Tryz.f6.params.toList args.toList ds p := hA0
  have hAll := hA
  rw [Tryz.params6] at hA hval
  obtain ⟨v0, vs0, d0, ds0, p0, q0, ha, rfl, rfl, h0, r0⟩ := trodAll_cons hA
  obtain ⟨v1, vs1, d1, ds1, p1, q1, rfl, rfl, rfl, h1, r1⟩ := trodAll_cons r0
  obtain ⟨v2, vs2, d2, ds2, p2, q2, rfl, rfl, rfl, h2, r2⟩ := trodAll_cons r1
  obtain ⟨rfl, rfl, rfl⟩ := trodAll_nil r2
  obtain ⟨rfl, rfl⟩ := trodVars_none hV
  have hargs : args = #[v0, v1, v2] := by apply Array.ext'; exact ha
  subst hargs
  obtain ⟨x, rfl, hfx⟩ := read_Ed (hval 0 _ _ rfl rfl) h0
  obtain ⟨y, rfl, hfy⟩ := read_Ed (hval 1 _ _ rfl rfl) h1
  obtain ⟨A, c, l, rfl, hs⟩ := read_Bs (hval 2 _ _ rfl rfl) h2
  refine (EditRoundTrip_any x y (fitE_of hfx) (fitE_of hfy) l A c W hs hLd).mono fun e W' ⟨he, hx⟩ => ?_
  subst he
  have hlt : ∀ x, x ∈ (p0 ++ (p1 ++ (p2 ++ []))) → x.block < W.heap.size := fun x hx2 => hW'.lt x (by simpa using hx2)
  exact ⟨_, rfl, _, _, _, [], _, [], hW', trodAll_mk1 (shut_bool Tryz.underlying4 true), args_below laidOut_ _ _ _ _ W' (by rw [Tryz.params6]; intro t ht; simp at ht; rcases ht with rfl | rfl <;> exact ⟨by kernel_rfl, of_decide_eq_true (by kernel_rfl)⟩) hAll hx.below hlt, rfl, hx.below.frame _, fun h => by cases h⟩

theorem editRoundTrip_row : Rows.EditRoundTripSaid :=
  OpenClaim.holds_of_wide 6 Tryz.f6 rfl rfl rfl rfl rfl rfl rfl ⟨rfl, rfl, rfl, rfl, rfl⟩ rfl rfl rfl rfl rfl (by kernel_rfl) Tryz.func6 (by kernel_rfl)
    (of_decide_eq_true (by kernel_rfl)) (by unfold Func.isWrapper; rw [if_neg (of_decide_eq_false (by kernel_rfl))]; exact ⟨rfl, rfl⟩)
    (fun os started H enc _ => editRoundTrip_lifted os started H enc)

theorem editRoundTrip_holds : Rows.EditRoundTripCardSaid :=
  Claim7.holds_tied_plain_at .later [] [.data, .data, .data, .data] true Rows.editRoundTripCard.stood.harness false
    editRoundTrip_row (fun _ h => by cases h) (by kernel_rfl) (fun _ h => by cases h) editRoundTrip_row_tie rfl ⟨rfl, rfl⟩ (by kernel_rfl) rfl
    (fun f fn hf hfn => by
      obtain rfl : f = 6 := Option.some.inj ((show Tryz.prog.funcNamed "voxel/voxellaw25.EditRoundTrip" = some 6 by kernel_rfl).symm.trans hf) |>.symm
      obtain rfl : fn = Tryz.f6 := (Option.some.inj (Tryz.func6.symm.trans hfn)).symm
      exact ⟨by kernel_rfl, fun j t ht => by
        rw [Tryz.params6] at ht
        have hm : t ∈ [29, 29, 42] := by simpa using Array.mem_of_getElem? ht
        have hall : ([29, 29, 42].all fun u => !Tryz.prog.wantsStandIn u) = true := by kernel_rfl
        exact (show Tryz.prog.wantsStandIn t = false by simpa using List.all_eq_true.1 hall t hm)⟩)
    (by kernel_rfl)
end Go.Proofs.YtlinhgannajfpaaGreatDoor
