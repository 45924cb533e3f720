/- YtlinhgannajfpaaGreatDoorZb · YtlinhgannajfpaaGreatDoorZbP -/
import Derived.Test.YtlinhgannajfpaaGreatDoorTie
import Derived.Test.YtlinhgannajfpaaGreatDoorCards
import Derived.LaidLaws
import Derived.SevenTiedAt
import Derived.Test.YtlinhgannajfpaaGreatDoorZa11
/- EditGrows. -/
namespace Go.Proofs.YtlinhgannajfpaaGreatDoor
open Go Go.RowKit

set_option maxRecDepth 100000 in
set_option maxHeartbeats 16000000 in
theorem EditGrows_any (x : Ed) (d m d2 m2 k2 : Int) (w : World) (hR : EnvI w) :
    Calls Tryz.prog 8 #[.agg #[.int .i64 x.st.tick, .int .i64 x.st.clock, .int .i64 x.st.site, .int .i64 x.st.seq, .int .i64 x.kind, .int .i64 x.box.lo.x, .int .i64 x.box.lo.y, .int .i64 x.box.lo.z, .int .i64 x.box.hi.x, .int .i64 x.box.hi.y, .int .i64 x.box.hi.z, .int .i64 x.at_.x, .int .i64 x.at_.y, .int .i64 x.at_.z, .int .i64 x.turn, .int .i64 x.cell, .int .i64 x.size], .int .i64 d, .int .i64 m, .int .i64 d2, .int .i64 m2, .int .i64 k2] w fun e w' => e = .returned (.bool true) ∧ Ext w w' := by
  have hm := mixed
  have HR := Lib.hid hR
  clear hR
  obtain ⟨W0, hW⟩ : ∃ W, W = w.alloc (.cells #[.int .i64 x.st.tick, .int .i64 x.st.clock, .int .i64 x.st.site, .int .i64 x.st.seq, .int .i64 x.kind, .int .i64 x.box.lo.x, .int .i64 x.box.lo.y, .int .i64 x.box.lo.z, .int .i64 x.box.hi.x, .int .i64 x.box.hi.y, .int .i64 x.box.hi.z, .int .i64 x.at_.x, .int .i64 x.at_.y, .int .i64 x.at_.z, .int .i64 x.turn, .int .i64 x.cell, .int .i64 x.size] 29) := ⟨_, rfl⟩
  have HX0 := Lib.hid (show Ext w W0 by rw [hW]; exact (Ext.refl w).alloc _)
  have HB0 := Lib.hid (show Arr W0 w.heap.size 29 [.int .i64 x.st.tick, .int .i64 x.st.clock, .int .i64 x.st.site, .int .i64 x.st.seq, .int .i64 x.kind, .int .i64 x.box.lo.x, .int .i64 x.box.lo.y, .int .i64 x.box.lo.z, .int .i64 x.box.hi.x, .int .i64 x.box.hi.y, .int .i64 x.box.hi.z, .int .i64 x.at_.x, .int .i64 x.at_.y, .int .i64 x.at_.z, .int .i64 x.turn, .int .i64 x.cell, .int .i64 x.size] by rw [hW]; exact Arr.new w _ _)
  obtain ⟨c, hc⟩ : ∃ c, checkE x d m = c := ⟨_, rfl⟩
  have HC := Lib.hid (fun (W : World) (hx : Ext w W) => k_chk x d m c hc W (HR.out.ext hx))
  go_enter Tryz.func8, Tryz.ntmps8
  go_upto_region 1 with fail
  rw [← hW]
  clear hW
  by_cases h0 : ¬ c = 0
  · clear hc
    go_wp2_with (first
      | (refine wpList_load_blk 29 (.tmp 6) rfl rfl HB0.out rfl _ Tryz.underlying29 rfl (by kernel_rfl) ?_) | (refine wpList_load_blk 29 (.tmp 6) rfl rfl (HB0.out.alloc _) rfl _ Tryz.underlying29 rfl (by kernel_rfl) ?_) | (refine wpList_load_blk 29 (.tmp 6) rfl rfl ((HB0.out.alloc _).alloc _) rfl _ Tryz.underlying29 rfl (by kernel_rfl) ?_)
      | (go_at_call 11; refine (HC.out _ HX0.out).mono ?_; rintro e W1 ⟨rfl, hx1⟩; have HX1 := Lib.hid (HX0.out.trans hx1); clear hx1)
      | (go_at_call 10; refine (sanity_any _ (HR.out.ext HX1.out)).mono ?_; rintro e W2 ⟨rfl, hx1⟩; have HX2 := Lib.hid (HX1.out.trans hx1); clear hx1))
    go_ret
    exact ⟨rfl, HX2.out⟩
  · obtain rfl : c = 0 := by omega
    clear h0
    have HMO := Lib.hid (fun (h1 : d ≤ d2) (h2 : d2 ≤ 14) (h3 : m ≤ m2) (h4 : m2 ≤ 256) (W : World) (hx : Ext w W) => k_chk x d2 m2 0 (chk_more hc h1 h2 h3 h4) W (HR.out.ext hx))
    obtain ⟨c2, hc2⟩ : ∃ c2, checkE ⟨x.st, k2, x.box, x.at_, x.turn, x.cell, x.size⟩ d m = c2 := ⟨_, rfl⟩
    have HC2 := Lib.hid (fun (W : World) (hx : Ext w W) => k_chk ⟨x.st, k2, x.box, x.at_, x.turn, x.cell, x.size⟩ d m c2 hc2 W (HR.out.ext hx))
    have HF2 := Lib.hid (fun (h : c2 = 0) (W : World) => (show Calls Tryz.prog 14 #[.agg #[.int .i64 (⟨x.st, k2, x.box, x.at_, x.turn, x.cell, x.size⟩ : Ed).st.tick, .int .i64 (⟨x.st, k2, x.box, x.at_, x.turn, x.cell, x.size⟩ : Ed).st.clock, .int .i64 (⟨x.st, k2, x.box, x.at_, x.turn, x.cell, x.size⟩ : Ed).st.site, .int .i64 (⟨x.st, k2, x.box, x.at_, x.turn, x.cell, x.size⟩ : Ed).st.seq, .int .i64 (⟨x.st, k2, x.box, x.at_, x.turn, x.cell, x.size⟩ : Ed).kind, .int .i64 (⟨x.st, k2, x.box, x.at_, x.turn, x.cell, x.size⟩ : Ed).box.lo.x, .int .i64 (⟨x.st, k2, x.box, x.at_, x.turn, x.cell, x.size⟩ : Ed).box.lo.y, .int .i64 (⟨x.st, k2, x.box, x.at_, x.turn, x.cell, x.size⟩ : Ed).box.lo.z, .int .i64 (⟨x.st, k2, x.box, x.at_, x.turn, x.cell, x.size⟩ : Ed).box.hi.x, .int .i64 (⟨x.st, k2, x.box, x.at_, x.turn, x.cell, x.size⟩ : Ed).box.hi.y, .int .i64 (⟨x.st, k2, x.box, x.at_, x.turn, x.cell, x.size⟩ : Ed).box.hi.z, .int .i64 (⟨x.st, k2, x.box, x.at_, x.turn, x.cell, x.size⟩ : Ed).at_.x, .int .i64 (⟨x.st, k2, x.box, x.at_, x.turn, x.cell, x.size⟩ : Ed).at_.y, .int .i64 (⟨x.st, k2, x.box, x.at_, x.turn, x.cell, x.size⟩ : Ed).at_.z, .int .i64 (⟨x.st, k2, x.box, x.at_, x.turn, x.cell, x.size⟩ : Ed).turn, .int .i64 (⟨x.st, k2, x.box, x.at_, x.turn, x.cell, x.size⟩ : Ed).cell, .int .i64 (⟨x.st, k2, x.box, x.at_, x.turn, x.cell, x.size⟩ : Ed).size]] W fun e w' => e = .returned (.bool true) ∧ Ext W w' by
      have h1 := refFormed_any ⟨x.st, k2, x.box, x.at_, x.turn, x.cell, x.size⟩ W
      rw [chk_formed (hc2.trans h)] at h1
      exact h1))
    clear hc hc2
    rcases (show ¬ d ≤ d2 ∨ (d ≤ d2 ∧ (¬ d2 ≤ 14 ∨ (d2 ≤ 14 ∧ (¬ m ≤ m2 ∨ (m ≤ m2 ∧ (¬ m2 ≤ 256 ∨ m2 ≤ 256)))))) by omega) with h1 | ⟨h1, h2 | ⟨h2, h3 | ⟨h3, h4 | h4⟩⟩⟩
    all_goals
      try have HM2 := Lib.hid (HMO.out h1 h2 h3 h4)
      clear HMO
      go_upto_region 3 with (first
        | (refine wpList_load_blk 29 (.tmp 6) rfl rfl HB0.out rfl _ Tryz.underlying29 rfl (by kernel_rfl) ?_) | (refine wpList_load_blk 29 (.tmp 6) rfl rfl (HB0.out.alloc _) rfl _ Tryz.underlying29 rfl (by kernel_rfl) ?_) | (refine wpList_load_blk 29 (.tmp 6) rfl rfl ((HB0.out.alloc _).alloc _) rfl _ Tryz.underlying29 rfl (by kernel_rfl) ?_)
        | (go_at_call 11; refine (HC.out _ HX0.out).mono ?_; rintro e W1 ⟨rfl, hx1⟩; have HB0 := Lib.hid (HB0.out.ext hx1); have HX1 := Lib.hid (HX0.out.trans hx1); clear hx1))
      go_upto_region 6 with (first
        | (refine wpList_load_blk 29 (.tmp 6) rfl rfl HB0.out rfl _ Tryz.underlying29 rfl (by kernel_rfl) ?_) | (refine wpList_load_blk 29 (.tmp 6) rfl rfl (HB0.out.alloc _) rfl _ Tryz.underlying29 rfl (by kernel_rfl) ?_) | (refine wpList_load_blk 29 (.tmp 6) rfl rfl ((HB0.out.alloc _).alloc _) rfl _ Tryz.underlying29 rfl (by kernel_rfl) ?_)
        | (go_at_call 11; refine (HM2.out _ HX1.out).mono ?_; rintro e W1 ⟨rfl, hx1⟩; have HB0 := Lib.hid (HB0.out.ext hx1); have HX1 := Lib.hid (HX1.out.trans hx1); clear hx1)
        | (refine wpList_store_blk2 29 (.tmp 13) (.tmp 43) rfl rfl (Arr.new W1 29 [.int .i64 0, .int .i64 0, .int .i64 0, .int .i64 0, .int .i64 0, .int .i64 0, .int .i64 0, .int .i64 0, .int .i64 0, .int .i64 0, .int .i64 0, .int .i64 0, .int .i64 0, .int .i64 0, .int .i64 0, .int .i64 0, .int .i64 0]) [.int .i64 x.st.tick, .int .i64 x.st.clock, .int .i64 x.st.site, .int .i64 x.st.seq, .int .i64 x.kind, .int .i64 x.box.lo.x, .int .i64 x.box.lo.y, .int .i64 x.box.lo.z, .int .i64 x.box.hi.x, .int .i64 x.box.hi.y, .int .i64 x.box.hi.z, .int .i64 x.at_.x, .int .i64 x.at_.y, .int .i64 x.at_.z, .int .i64 x.turn, .int .i64 x.cell, .int .i64 x.size] rfl rfl (by kernel_rfl) rfl rfl rfl ?_; intro W3 hW; have HX3 := Lib.hid (show Ext w W3 by rw [hW]; exact (HX1.out.alloc _).setRow HX1.out.size _); have HY3 := Lib.hid (show Arr W3 W1.heap.size 29 [.int .i64 x.st.tick, .int .i64 x.st.clock, .int .i64 x.st.site, .int .i64 x.st.seq, .int .i64 x.kind, .int .i64 x.box.lo.x, .int .i64 x.box.lo.y, .int .i64 x.box.lo.z, .int .i64 x.box.hi.x, .int .i64 x.box.hi.y, .int .i64 x.box.hi.z, .int .i64 x.at_.x, .int .i64 x.at_.y, .int .i64 x.at_.z, .int .i64 x.turn, .int .i64 x.cell, .int .i64 x.size] by rw [hW]; exact (Arr.new W1 29 [.int .i64 0, .int .i64 0, .int .i64 0, .int .i64 0, .int .i64 0, .int .i64 0, .int .i64 0, .int .i64 0, .int .i64 0, .int .i64 0, .int .i64 0, .int .i64 0, .int .i64 0, .int .i64 0, .int .i64 0, .int .i64 0, .int .i64 0]).setRow [.int .i64 x.st.tick, .int .i64 x.st.clock, .int .i64 x.st.site, .int .i64 x.st.seq, .int .i64 x.kind, .int .i64 x.box.lo.x, .int .i64 x.box.lo.y, .int .i64 x.box.lo.z, .int .i64 x.box.hi.x, .int .i64 x.box.hi.y, .int .i64 x.box.hi.z, .int .i64 x.at_.x, .int .i64 x.at_.y, .int .i64 x.at_.z, .int .i64 x.turn, .int .i64 x.cell, .int .i64 x.size]); clear hW))
      obtain ⟨bY, hbY⟩ : ∃ b, b = W1.heap.size := ⟨_, rfl⟩
      have hbw := Lib.hid (show w.heap.size ≤ bY by rw [hbY]; exact HX1.out.size)
      rw [← hbY] at HY3
      rw [← hbY]
      clear hbY
      have cY := HY3.out.cell
      have fY := HY3.out.frozen
      have lY := HY3.out.lt
      go_upto_region 7 with fail
      obtain ⟨W4, hW⟩ : ∃ W, W = W3.setCell ⟨bY, 4, none⟩ (.int .i64 k2) := ⟨_, rfl⟩
      have HY4 := Lib.hid (show Arr W4 bY 29 [.int .i64 (⟨x.st, k2, x.box, x.at_, x.turn, x.cell, x.size⟩ : Ed).st.tick, .int .i64 (⟨x.st, k2, x.box, x.at_, x.turn, x.cell, x.size⟩ : Ed).st.clock, .int .i64 (⟨x.st, k2, x.box, x.at_, x.turn, x.cell, x.size⟩ : Ed).st.site, .int .i64 (⟨x.st, k2, x.box, x.at_, x.turn, x.cell, x.size⟩ : Ed).st.seq, .int .i64 (⟨x.st, k2, x.box, x.at_, x.turn, x.cell, x.size⟩ : Ed).kind, .int .i64 (⟨x.st, k2, x.box, x.at_, x.turn, x.cell, x.size⟩ : Ed).box.lo.x, .int .i64 (⟨x.st, k2, x.box, x.at_, x.turn, x.cell, x.size⟩ : Ed).box.lo.y, .int .i64 (⟨x.st, k2, x.box, x.at_, x.turn, x.cell, x.size⟩ : Ed).box.lo.z, .int .i64 (⟨x.st, k2, x.box, x.at_, x.turn, x.cell, x.size⟩ : Ed).box.hi.x, .int .i64 (⟨x.st, k2, x.box, x.at_, x.turn, x.cell, x.size⟩ : Ed).box.hi.y, .int .i64 (⟨x.st, k2, x.box, x.at_, x.turn, x.cell, x.size⟩ : Ed).box.hi.z, .int .i64 (⟨x.st, k2, x.box, x.at_, x.turn, x.cell, x.size⟩ : Ed).at_.x, .int .i64 (⟨x.st, k2, x.box, x.at_, x.turn, x.cell, x.size⟩ : Ed).at_.y, .int .i64 (⟨x.st, k2, x.box, x.at_, x.turn, x.cell, x.size⟩ : Ed).at_.z, .int .i64 (⟨x.st, k2, x.box, x.at_, x.turn, x.cell, x.size⟩ : Ed).turn, .int .i64 (⟨x.st, k2, x.box, x.at_, x.turn, x.cell, x.size⟩ : Ed).cell, .int .i64 (⟨x.st, k2, x.box, x.at_, x.turn, x.cell, x.size⟩ : Ed).size] by rw [hW]; exact HY3.out.set 4 (.int .i64 k2))
      have HX4 := Lib.hid (show Ext w W4 by rw [hW]; exact HX3.out.setCell (p := ⟨bY, 4, none⟩) hbw.out _)
      rw [← hW]
      clear hW cY fY lY
      by_cases h5 : c2 = 0
      all_goals
        try have HF3 := Lib.hid (HF2.out h5)
        clear HF2
        go_wp2_with (first
          | (go_at_call 10; refine (sanity_any _ (HR.out.ext HX4.out)).mono ?_; rintro e W5 ⟨rfl, hx1⟩; have HX5 := Lib.hid (HX4.out.trans hx1); have HY4 := Lib.hid (HY4.out.ext hx1); clear hx1)
          | (refine wpList_load_blk 29 (.tmp 13) rfl rfl HY4.out rfl _ Tryz.underlying29 rfl (by kernel_rfl) ?_) | (refine wpList_load_blk 29 (.tmp 13) rfl rfl (HY4.out.alloc _) rfl _ Tryz.underlying29 rfl (by kernel_rfl) ?_) | (refine wpList_load_blk 29 (.tmp 13) rfl rfl ((HY4.out.alloc _).alloc _) rfl _ Tryz.underlying29 rfl (by kernel_rfl) ?_)
          | (go_at_call 11; refine (HC2.out _ HX5.out).mono ?_; rintro e W6 ⟨rfl, hx1⟩; have HY4 := Lib.hid (HY4.out.ext hx1); have HX5 := Lib.hid (HX5.out.trans hx1); clear hx1)
          | (go_at_call 14; refine (HF3.out _).mono ?_; rintro e W7 ⟨rfl, hx1⟩; have HX5 := Lib.hid (HX5.out.trans hx1); clear hx1))
        go_ret
        exact ⟨rfl, HX5.out⟩
end Go.Proofs.YtlinhgannajfpaaGreatDoor

/- EditGrows: for every input the law returns true, and each argument reads as it did. No condition. -/
namespace Go.Proofs.YtlinhgannajfpaaGreatDoor
open Go Go.RowKit Go.ChangeShapes Go.WideShapes Go.ChangeAt

set_option maxHeartbeats 1600000 in
set_option maxRecDepth 100000 in
theorem editGrows_lifted (os : Os) (started : os.Started) (H : Type) (enc : TypeId × Value → H) :
    ReturnsInHanded {} Tryz.checked os 8 .any (fun w args => (Rows.editGrowsSpec.pre enc Tryz.prog Tryz.f8 Rows.editGrowsRow.domain false w args ∧ laidMetH Tryz.prog laidL w) ∧ sizedMet enc Tryz.prog Tryz.f8 (OpenSpec.ofChange Rows.editGrowsSpec) false w args) (Rows.editGrowsSpec.post enc Tryz.prog Tryz.f8 false true false false) := by
  refine returnsInHanded_of_change_and (C := Tryz.checked) (X := fun w _ => laidMetH Tryz.prog laidL w) (fun _ _ _ hh h => h.of_heap hh) own_ started (by kernel_rfl) Tryz.func8
    (ChangeSpec.witness_shaped (enc := enc) (C := Tryz.checked) (os := os) (X := fun w _ => laidMetH Tryz.prog laidL w) false (World.laidAll Tryz.prog os laidL) #[.agg #[.int .i64 0, .int .i64 0, .int .i64 0, .int .i64 0, .int .i64 0, .int .i64 0, .int .i64 0, .int .i64 0, .int .i64 0, .int .i64 0, .int .i64 0, .int .i64 0, .int .i64 0, .int .i64 0, .int .i64 0, .int .i64 0, .int .i64 0], .int .i64 0, .int .i64 0, .int .i64 0, .int .i64 0, .int .i64 0] 8 (World.laidAll_os _ _ _) (World.shaped_of_ZipB (by kernel_rfl) (by kernel_rfl)) (by kernel_rfl) (by kernel_rfl) (by kernel_rfl)
      (by rw [MakeChecks.laidMetH_plain _ _ _ (by kernel_rfl)]; exact laidMet_laidAll _ (by kernel_rfl) (by kernel_rfl))) ?_
  intro W base args ds gs before hval0 hW hcnd _ hLd _
  have hval : ∀ (j : Nat) t v, Tryz.f8.params[j]? = some t → args[j]? = some v → Value.okWide Tryz.prog W .any base t v := hval0
  have hLd := laid_of hLd
  have hW' := hW
  obtain ⟨p, q, hA0, hV, rfl, hfz, hnd⟩ := hW
  have hA : DataW.TrodAll enc Tryz.prog W 0 (fun _ => true) true Tryz.f8.params.toList args.toList ds p := hA0
  have hAll := hA
  rw [Tryz.params8] at hA hval
  obtain ⟨v0, vs0, d0, ds0, p0, q0, ha, rfl, rfl, h0, r0⟩ := trodAll_cons hA
  obtain ⟨v1, vs1, d1, ds1, p1, q1, rfl, rfl, rfl, h1, r1⟩ := trodAll_cons r0
  obtain ⟨v2, vs2, d2, ds2, p2, q2, rfl, rfl, rfl, h2, r2⟩ := trodAll_cons r1
  obtain ⟨v3, vs3, d3, ds3, p3, q3, rfl, rfl, rfl, h3, r3⟩ := trodAll_cons r2
  obtain ⟨v4, vs4, d4, ds4, p4, q4, rfl, rfl, rfl, h4, r4⟩ := trodAll_cons r3
  obtain ⟨v5, vs5, d5, ds5, p5, q5, rfl, rfl, rfl, h5, r5⟩ := trodAll_cons r4
  obtain ⟨rfl, rfl, rfl⟩ := trodAll_nil r5
  obtain ⟨rfl, rfl⟩ := trodVars_none hV
  have hargs : args = #[v0, v1, v2, v3, v4, v5] := by apply Array.ext'; exact ha
  subst hargs
  obtain ⟨x, rfl, hf⟩ := read_Ed (hval 0 _ _ rfl rfl) h0
  obtain ⟨d, rfl, rfl, rfl, _⟩ := open_int Tryz.underlying3 (hval 1 _ _ rfl rfl) h1
  obtain ⟨m, rfl, rfl, rfl, _⟩ := open_int Tryz.underlying3 (hval 2 _ _ rfl rfl) h2
  obtain ⟨d2, rfl, rfl, rfl, _⟩ := open_int Tryz.underlying3 (hval 3 _ _ rfl rfl) h3
  obtain ⟨m2, rfl, rfl, rfl, _⟩ := open_int Tryz.underlying3 (hval 4 _ _ rfl rfl) h4
  obtain ⟨k2, rfl, rfl, rfl, _⟩ := open_int Tryz.underlying3 (hval 5 _ _ rfl rfl) h5
  refine (EditGrows_any x d m d2 m2 k2 W hLd).mono fun e W' ⟨he, hx⟩ => ?_
  subst he
  have hlt : ∀ x, x ∈ (p0 ++ ([] ++ ([] ++ ([] ++ ([] ++ ([] ++ [])))))) → x.block < W.heap.size := fun x hx2 => hW'.lt x (by simpa using hx2)
  exact ⟨_, rfl, _, _, _, [], _, [], hW', trodAll_mk1 (shut_bool Tryz.underlying4 true), args_below laidOut_ _ _ _ _ W' (by rw [Tryz.params8]; intro t ht; simp at ht; rcases ht with rfl | rfl <;> exact ⟨by kernel_rfl, of_decide_eq_true (by kernel_rfl)⟩) hAll hx.below hlt, rfl, hx.below.frame _, fun h => by cases h⟩

theorem editGrows_row : Rows.EditGrowsSaid :=
  OpenClaim.holds_of_wide 8 Tryz.f8 rfl rfl rfl rfl rfl rfl rfl ⟨rfl, rfl, rfl, rfl, rfl⟩ rfl rfl rfl rfl rfl (by kernel_rfl) Tryz.func8 (by kernel_rfl)
    (of_decide_eq_true (by kernel_rfl)) (by unfold Func.isWrapper; rw [if_neg (of_decide_eq_false (by kernel_rfl))]; exact ⟨rfl, rfl⟩)
    (fun os started H enc _ => editGrows_lifted os started H enc)

theorem editGrows_holds : Rows.EditGrowsCardSaid :=
  Claim7.holds_tied_plain_at .later [] [.data, .data, .data, .data] true Rows.editGrowsCard.stood.harness false
    editGrows_row (fun _ h => by cases h) (by kernel_rfl) (fun _ h => by cases h) editGrows_row_tie rfl ⟨rfl, rfl⟩ (by kernel_rfl) rfl
    (fun f fn hf hfn => by
      obtain rfl : f = 8 := Option.some.inj ((show Tryz.prog.funcNamed "voxel/voxellaw25.EditGrows" = some 8 by kernel_rfl).symm.trans hf) |>.symm
      obtain rfl : fn = Tryz.f8 := (Option.some.inj (Tryz.func8.symm.trans hfn)).symm
      exact ⟨by kernel_rfl, fun j t ht => by
        rw [Tryz.params8] at ht
        have hm : t ∈ [29, 3, 3, 3, 3, 3] := by simpa using Array.mem_of_getElem? ht
        have hall : ([29, 3, 3, 3, 3, 3].all fun u => !Tryz.prog.wantsStandIn u) = true := by kernel_rfl
        exact (show Tryz.prog.wantsStandIn t = false by simpa using List.all_eq_true.1 hall t hm)⟩)
    (by kernel_rfl)
end Go.Proofs.YtlinhgannajfpaaGreatDoor
