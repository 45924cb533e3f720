/- YtlinhgannajfpaaGreatDoorUx · YtlinhgannajfpaaGreatDoorUxP -/
import Derived.Test.YtlinhgannajfpaaGreatDoorTie
import Derived.Test.YtlinhgannajfpaaGreatDoorCards
import Derived.LaidLaws
import Derived.SevenTiedAt
import Derived.Test.YtlinhgannajfpaaGreatDoorZa11
/- EditDecodesAsSpecified. -/
namespace Go.Proofs.YtlinhgannajfpaaGreatDoor
open Go Go.RowKit

set_option maxRecDepth 100000 in
set_option maxHeartbeats 8000000 in
theorem EditDecodesAsSpecified_any (l : List UInt8) (A : Option Addr) (c : Nat) (w : World) (hs : Sv w w.heap.size 1 A c (rowsB l)) (hR : EnvI w) :
    Calls Tryz.prog 5 #[.slice A l.length c] w fun e w' => e = .returned (.bool true) ∧ Ext w w' := by
  have hm := mixed
  have HR := Lib.hid hR
  have HS := Lib.hid hs
  clear hR hs
  by_cases hl : 400 < (l.length : Int)
  · go_enter Tryz.func5, Tryz.ntmps5
    go_wp2_with (go_at_call 10; refine (sanity_any _ HR.out).mono ?_; rintro e W1 ⟨rfl, hx1⟩)
    go_ret
    exact ⟨rfl, hx1⟩
  · obtain ⟨y, r, hd⟩ : ∃ y r, decE l = (y, r) := ⟨_, _, rfl⟩
    have HD1 := Lib.hid (fun (W : World) (hx : Ext w W) => k_dec l l.length rfl y r hd (by omega) A c W (HS.out.ext hx) (HR.out.ext hx))
    have HD2 := Lib.hid (fun (W : World) (hx : Ext w W) => (show Calls Tryz.prog 30 #[.slice A l.length c] W fun e w' => e = .returned (.tuple #[.agg #[.int .i64 y.st.tick, .int .i64 y.st.clock, .int .i64 y.st.site, .int .i64 y.st.seq, .int .i64 y.kind, .int .i64 y.box.lo.x, .int .i64 y.box.lo.y, .int .i64 y.box.lo.z, .int .i64 y.box.hi.x, .int .i64 y.box.hi.y, .int .i64 y.box.hi.z, .int .i64 y.at_.x, .int .i64 y.at_.y, .int .i64 y.at_.z, .int .i64 y.turn, .int .i64 y.cell, .int .i64 y.size], .int .i64 r]) ∧ Ext W w' by
      have h := refDecode_any l (by omega) A c W (HS.out.ext hx)
      rw [hd] at h
      exact h))
    have hq := eqEd_run y y
    simp only [decide_true] at hq
    have hq : ∀ W : World, (binOp .eql 29 (.agg #[.int .i64 y.st.tick, .int .i64 y.st.clock, .int .i64 y.st.site, .int .i64 y.st.seq, .int .i64 y.kind, .int .i64 y.box.lo.x, .int .i64 y.box.lo.y, .int .i64 y.box.lo.z, .int .i64 y.box.hi.x, .int .i64 y.box.hi.y, .int .i64 y.box.hi.z, .int .i64 y.at_.x, .int .i64 y.at_.y, .int .i64 y.at_.z, .int .i64 y.turn, .int .i64 y.cell, .int .i64 y.size]) (.agg #[.int .i64 y.st.tick, .int .i64 y.st.clock, .int .i64 y.st.site, .int .i64 y.st.seq, .int .i64 y.kind, .int .i64 y.box.lo.x, .int .i64 y.box.lo.y, .int .i64 y.box.lo.z, .int .i64 y.box.hi.x, .int .i64 y.box.hi.y, .int .i64 y.box.hi.z, .int .i64 y.at_.x, .int .i64 y.at_.y, .int .i64 y.at_.z, .int .i64 y.turn, .int .i64 y.cell, .int .i64 y.size])).run Tryz.prog W = .ok (.bool true) W := hq
    clear hd
    go_enter Tryz.func5, Tryz.ntmps5
    go_upto_region 4 with (first
      | (go_at_call 29; refine (HD1.out _ (Ext.refl w)).mono ?_; rintro e W1 ⟨rfl, hx1⟩; have HX1 := Lib.hid hx1; clear hx1)
      | (refine wpList_store_blk2 29 (.tmp 3) (.tmp 14) rfl rfl (Arr.new W1 29 [.int .i64 0, .int .i64 0, .int .i64 0, .int .i64 0, .int .i64 0, .int .i64 0, .int .i64 0, .int .i64 0, .int .i64 0, .int .i64 0, .int .i64 0, .int .i64 0, .int .i64 0, .int .i64 0, .int .i64 0, .int .i64 0, .int .i64 0]) [.int .i64 y.st.tick, .int .i64 y.st.clock, .int .i64 y.st.site, .int .i64 y.st.seq, .int .i64 y.kind, .int .i64 y.box.lo.x, .int .i64 y.box.lo.y, .int .i64 y.box.lo.z, .int .i64 y.box.hi.x, .int .i64 y.box.hi.y, .int .i64 y.box.hi.z, .int .i64 y.at_.x, .int .i64 y.at_.y, .int .i64 y.at_.z, .int .i64 y.turn, .int .i64 y.cell, .int .i64 y.size] rfl rfl (by kernel_rfl) rfl rfl rfl ?_; intro W2 hW; have HX2 := Lib.hid (show Ext w W2 by rw [hW]; exact (HX1.out.alloc _).setRow (g := W1.heap.size) HX1.out.size _); have HB1 := Lib.hid (show Arr W2 W1.heap.size 29 [.int .i64 y.st.tick, .int .i64 y.st.clock, .int .i64 y.st.site, .int .i64 y.st.seq, .int .i64 y.kind, .int .i64 y.box.lo.x, .int .i64 y.box.lo.y, .int .i64 y.box.lo.z, .int .i64 y.box.hi.x, .int .i64 y.box.hi.y, .int .i64 y.box.hi.z, .int .i64 y.at_.x, .int .i64 y.at_.y, .int .i64 y.at_.z, .int .i64 y.turn, .int .i64 y.cell, .int .i64 y.size] by rw [hW]; exact (Arr.new W1 29 [.int .i64 0, .int .i64 0, .int .i64 0, .int .i64 0, .int .i64 0, .int .i64 0, .int .i64 0, .int .i64 0, .int .i64 0, .int .i64 0, .int .i64 0, .int .i64 0, .int .i64 0, .int .i64 0, .int .i64 0, .int .i64 0, .int .i64 0]).setRow [.int .i64 y.st.tick, .int .i64 y.st.clock, .int .i64 y.st.site, .int .i64 y.st.seq, .int .i64 y.kind, .int .i64 y.box.lo.x, .int .i64 y.box.lo.y, .int .i64 y.box.lo.z, .int .i64 y.box.hi.x, .int .i64 y.box.hi.y, .int .i64 y.box.hi.z, .int .i64 y.at_.x, .int .i64 y.at_.y, .int .i64 y.at_.z, .int .i64 y.turn, .int .i64 y.cell, .int .i64 y.size]); clear hW))
    obtain ⟨b1, hb1⟩ : ∃ b, b = W1.heap.size := ⟨_, rfl⟩
    rw [← hb1] at HB1
    rw [← hb1]
    clear hb1
    go_upto_region 5 with (first
      | (go_at_call 30; refine (HD2.out _ HX2.out).mono ?_; rintro e W3 ⟨rfl, hx1⟩; have HX3 := Lib.hid (HX2.out.trans hx1); have HB1 := Lib.hid (HB1.out.ext hx1); clear hx1)
      | (refine wpList_store_blk2 29 (.tmp 5) (.tmp 19) rfl rfl (Arr.new W3 29 [.int .i64 0, .int .i64 0, .int .i64 0, .int .i64 0, .int .i64 0, .int .i64 0, .int .i64 0, .int .i64 0, .int .i64 0, .int .i64 0, .int .i64 0, .int .i64 0, .int .i64 0, .int .i64 0, .int .i64 0, .int .i64 0, .int .i64 0]) [.int .i64 y.st.tick, .int .i64 y.st.clock, .int .i64 y.st.site, .int .i64 y.st.seq, .int .i64 y.kind, .int .i64 y.box.lo.x, .int .i64 y.box.lo.y, .int .i64 y.box.lo.z, .int .i64 y.box.hi.x, .int .i64 y.box.hi.y, .int .i64 y.box.hi.z, .int .i64 y.at_.x, .int .i64 y.at_.y, .int .i64 y.at_.z, .int .i64 y.turn, .int .i64 y.cell, .int .i64 y.size] rfl rfl (by kernel_rfl) rfl rfl rfl ?_; intro W4 hW; have HX4 := Lib.hid (show Ext w W4 by rw [hW]; exact (HX3.out.alloc _).setRow (g := W3.heap.size) HX3.out.size _); have HB2 := Lib.hid (show Arr W4 W3.heap.size 29 [.int .i64 y.st.tick, .int .i64 y.st.clock, .int .i64 y.st.site, .int .i64 y.st.seq, .int .i64 y.kind, .int .i64 y.box.lo.x, .int .i64 y.box.lo.y, .int .i64 y.box.lo.z, .int .i64 y.box.hi.x, .int .i64 y.box.hi.y, .int .i64 y.box.hi.z, .int .i64 y.at_.x, .int .i64 y.at_.y, .int .i64 y.at_.z, .int .i64 y.turn, .int .i64 y.cell, .int .i64 y.size] by rw [hW]; exact (Arr.new W3 29 [.int .i64 0, .int .i64 0, .int .i64 0, .int .i64 0, .int .i64 0, .int .i64 0, .int .i64 0, .int .i64 0, .int .i64 0, .int .i64 0, .int .i64 0, .int .i64 0, .int .i64 0, .int .i64 0, .int .i64 0, .int .i64 0, .int .i64 0]).setRow [.int .i64 y.st.tick, .int .i64 y.st.clock, .int .i64 y.st.site, .int .i64 y.st.seq, .int .i64 y.kind, .int .i64 y.box.lo.x, .int .i64 y.box.lo.y, .int .i64 y.box.lo.z, .int .i64 y.box.hi.x, .int .i64 y.box.hi.y, .int .i64 y.box.hi.z, .int .i64 y.at_.x, .int .i64 y.at_.y, .int .i64 y.at_.z, .int .i64 y.turn, .int .i64 y.cell, .int .i64 y.size]); have HB1 := Lib.hid (show Arr W4 b1 29 [.int .i64 y.st.tick, .int .i64 y.st.clock, .int .i64 y.st.site, .int .i64 y.st.seq, .int .i64 y.kind, .int .i64 y.box.lo.x, .int .i64 y.box.lo.y, .int .i64 y.box.lo.z, .int .i64 y.box.hi.x, .int .i64 y.box.hi.y, .int .i64 y.box.hi.z, .int .i64 y.at_.x, .int .i64 y.at_.y, .int .i64 y.at_.z, .int .i64 y.turn, .int .i64 y.cell, .int .i64 y.size] by rw [hW]; exact (HB1.out.alloc _).setRow_other (by have := HB1.out.lt; omega) _); clear hW))
    obtain ⟨b2, hb2⟩ : ∃ b, b = W3.heap.size := ⟨_, rfl⟩
    rw [← hb2] at HB2
    rw [← hb2]
    clear hb2
    go_wp2_with (first
      | (go_at_call 10; refine (sanity_any _ (HR.out.ext HX4.out)).mono ?_; rintro e W5 ⟨rfl, hx1⟩; have HX5 := Lib.hid (HX4.out.trans hx1); have HB1 := Lib.hid (HB1.out.ext hx1); have HB2 := Lib.hid (HB2.out.ext hx1); clear hx1)
      | (refine wpList_load_blk 29 (.tmp 3) rfl rfl HB1.out rfl _ Tryz.underlying29 rfl (by kernel_rfl) ?_) | (refine wpList_load_blk 29 (.tmp 3) rfl rfl (HB1.out.alloc _) rfl _ Tryz.underlying29 rfl (by kernel_rfl) ?_) | (refine wpList_load_blk 29 (.tmp 3) rfl rfl ((HB1.out.alloc _).alloc _) rfl _ Tryz.underlying29 rfl (by kernel_rfl) ?_) | (refine wpList_load_blk 29 (.tmp 5) rfl rfl HB2.out rfl _ Tryz.underlying29 rfl (by kernel_rfl) ?_) | (refine wpList_load_blk 29 (.tmp 5) rfl rfl (HB2.out.alloc _) rfl _ Tryz.underlying29 rfl (by kernel_rfl) ?_) | (refine wpList_load_blk 29 (.tmp 5) rfl rfl ((HB2.out.alloc _).alloc _) rfl _ Tryz.underlying29 rfl (by kernel_rfl) ?_))
    go_ret
    exact ⟨rfl, HX5.out⟩
end Go.Proofs.YtlinhgannajfpaaGreatDoor

/- EditDecodesAsSpecified: for every input the law returns true, and each argument reads as it did. No condition. -/
namespace Go.Proofs.YtlinhgannajfpaaGreatDoor
open Go Go.RowKit Go.ChangeShapes Go.WideShapes Go.ChangeAt

set_option maxHeartbeats 1600000 in
set_option maxRecDepth 100000 in
theorem editDecodesAsSpecified_lifted (os : Os) (started : os.Started) (H : Type) (enc : TypeId × Value → H) :
    ReturnsInHanded {} Tryz.checked os 5 .any (fun w args => (Rows.editDecodesAsSpecifiedSpec.pre enc Tryz.prog Tryz.f5 Rows.editDecodesAsSpecifiedRow.domain false w args ∧ laidMetH Tryz.prog laidL w) ∧ sizedMet enc Tryz.prog Tryz.f5 (OpenSpec.ofChange Rows.editDecodesAsSpecifiedSpec) false w args) (Rows.editDecodesAsSpecifiedSpec.post enc Tryz.prog Tryz.f5 false true false false) := by
  refine returnsInHanded_of_change_and (C := Tryz.checked) (X := fun w _ => laidMetH Tryz.prog laidL w) (fun _ _ _ hh h => h.of_heap hh) own_ started (by kernel_rfl) Tryz.func5
    (ChangeSpec.witness_shaped (enc := enc) (C := Tryz.checked) (os := os) (X := fun w _ => laidMetH Tryz.prog laidL w) false (World.laidAll Tryz.prog os laidL) #[.slice none 0 0] 8 (World.laidAll_os _ _ _) (World.shaped_of_ZipB (by kernel_rfl) (by kernel_rfl)) (by kernel_rfl) (by kernel_rfl) (by kernel_rfl)
      (by rw [MakeChecks.laidMetH_plain _ _ _ (by kernel_rfl)]; exact laidMet_laidAll _ (by kernel_rfl) (by kernel_rfl))) ?_
  intro W base args ds gs before hval0 hW hcnd _ hLd _
  have hval : ∀ (j : Nat) t v, Tryz.f5.params[j]? = some t → args[j]? = some v → Value.okWide Tryz.prog W .any base t v := hval0
  have hLd := laid_of hLd
  have hW' := hW
  obtain ⟨p, q, hA0, hV, rfl, hfz, hnd⟩ := hW
  have hA : DataW.TrodAll enc Tryz.prog W 0 (fun _ => true) true Tryz.f5.params.toList args.toList ds p := hA0
  have hAll := hA
  rw [Tryz.params5] at hA hval
  obtain ⟨v0, vs0, d0, ds0, p0, q0, ha, rfl, rfl, h0, r0⟩ := trodAll_cons hA
  obtain ⟨rfl, rfl, rfl⟩ := trodAll_nil r0
  obtain ⟨rfl, rfl⟩ := trodVars_none hV
  have hargs : args = #[v0] := by apply Array.ext'; exact ha
  subst hargs
  obtain ⟨A, c, l, rfl, hs⟩ := read_Bs (hval 0 _ _ rfl rfl) h0
  refine (EditDecodesAsSpecified_any l A c W hs hLd).mono fun e W' ⟨he, hx⟩ => ?_
  subst he
  have hlt : ∀ x, x ∈ (p0 ++ []) → x.block < W.heap.size := fun x hx2 => hW'.lt x (by simpa using hx2)
  exact ⟨_, rfl, _, _, _, [], _, [], hW', trodAll_mk1 (shut_bool Tryz.underlying4 true), args_below laidOut_ _ _ _ _ W' (by rw [Tryz.params5]; intro t ht; simp at ht; rcases ht with rfl <;> exact ⟨by kernel_rfl, of_decide_eq_true (by kernel_rfl)⟩) hAll hx.below hlt, rfl, hx.below.frame _, fun h => by cases h⟩

theorem editDecodesAsSpecified_row : Rows.EditDecodesAsSpecifiedSaid :=
  OpenClaim.holds_of_wide 5 Tryz.f5 rfl rfl rfl rfl rfl rfl rfl ⟨rfl, rfl, rfl, rfl, rfl⟩ rfl rfl rfl rfl rfl (by kernel_rfl) Tryz.func5 (by kernel_rfl)
    (of_decide_eq_true (by kernel_rfl)) (by unfold Func.isWrapper; rw [if_neg (of_decide_eq_false (by kernel_rfl))]; exact ⟨rfl, rfl⟩)
    (fun os started H enc _ => editDecodesAsSpecified_lifted os started H enc)

theorem editDecodesAsSpecified_holds : Rows.EditDecodesAsSpecifiedCardSaid :=
  Claim7.holds_tied_plain_at .later [] [.data, .data, .data, .data] true Rows.editDecodesAsSpecifiedCard.stood.harness false
    editDecodesAsSpecified_row (fun _ h => by cases h) (by kernel_rfl) (fun _ h => by cases h) editDecodesAsSpecified_row_tie rfl ⟨rfl, rfl⟩ (by kernel_rfl) rfl
    (fun f fn hf hfn => by
      obtain rfl : f = 5 := Option.some.inj ((show Tryz.prog.funcNamed "voxel/voxellaw25.EditDecodesAsSpecified" = some 5 by kernel_rfl).symm.trans hf) |>.symm
      obtain rfl : fn = Tryz.f5 := (Option.some.inj (Tryz.func5.symm.trans hfn)).symm
      exact ⟨by kernel_rfl, fun j t ht => by
        rw [Tryz.params5] at ht
        have hm : t ∈ [42] := by simpa using Array.mem_of_getElem? ht
        have hall : ([42].all fun u => !Tryz.prog.wantsStandIn u) = true := by kernel_rfl
        exact (show Tryz.prog.wantsStandIn t = false by simpa using List.all_eq_true.1 hall t hm)⟩)
    (by kernel_rfl)
end Go.Proofs.YtlinhgannajfpaaGreatDoor
