/- LockFrees, walked. · LockBlocksOthers, walked. · LockBlocksOthers: for every input the law returns true, and each argument reads as it did. No condition. -/
import Derived.Test.YtjceebpafnnffaaDoorTie
import Derived.Test.YtjceebpafnnffaaDoorCards
import Derived.LaidLaws
import Derived.SevenTiedAt
import Derived.Test.YtjceebpafnnffaaDoorZa8
namespace Go.Proofs.YtjceebpafnnffaaDoor
open Go Go.RowKit

theorem few_VT {ls : List Lk} (h : (decide (ls.length ≤ 60) && validR ls) = true) : VT ls ∧ ls.length ≤ 60 := by
  rw [Bool.and_eq_true, decide_eq_true_eq, validR_VT] at h
  exact ⟨h.2, h.1⟩
theorem takeP_at {ls : List Lk} {x : Ed} (hv : VT ls) (hw : fits x) (hb : ls.length ≤ 1000000) (A : Option Addr) (c : Nat) (w : World) (hs : Sv w w.heap.size 9 A c (rowsL ls)) (hL : Laid w) :
    Calls Tryd.prog 11 #[.slice A ls.length c, .agg #[.int .i64 x.st.tick, .int .i64 x.st.clock, .int .i64 x.st.site, .int .i64 x.st.seq, .int .i64 x.kind, .int .i64 x.box.lo.x, .int .i64 x.box.lo.y, .int .i64 x.box.lo.z, .int .i64 x.box.hi.x, .int .i64 x.box.hi.y, .int .i64 x.box.hi.z, .int .i64 x.at_.x, .int .i64 x.at_.y, .int .i64 x.at_.z, .int .i64 x.turn, .int .i64 x.cell, .int .i64 x.size]] w (RetTS (takeR ls x).1 (takeR ls x).2 w) := by
  have h1 := LTake_any A c ls x w hs hb hL.rows hv.sorted
  rw [take_eq hv hw] at h1
  exact h1.mono fun _ _ h => h.read
theorem freeP_at {ls : List Lk} {x : Ed} (hv : VT ls) (hw : fits x) (hb : ls.length ≤ 1000000) (A : Option Addr) (c : Nat) (w : World) (hs : Sv w w.heap.size 9 A c (rowsL ls)) (hL : Laid w) :
    Calls Tryd.prog 13 #[.slice A ls.length c, .agg #[.int .i64 x.st.tick, .int .i64 x.st.clock, .int .i64 x.st.site, .int .i64 x.st.seq, .int .i64 x.kind, .int .i64 x.box.lo.x, .int .i64 x.box.lo.y, .int .i64 x.box.lo.z, .int .i64 x.box.hi.x, .int .i64 x.box.hi.y, .int .i64 x.box.hi.z, .int .i64 x.at_.x, .int .i64 x.at_.y, .int .i64 x.at_.z, .int .i64 x.turn, .int .i64 x.cell, .int .i64 x.size]] w (RetTS (freeR ls x).1 (freeR ls x).2 w) := by
  have h1 := LFree_any A c ls x w hs hb hL.rows hv.sorted
  rw [free_eq hv hw] at h1
  exact h1.mono fun _ _ h => h.read
theorem fits_undo (x : Ed) : fits (undoE x) := ⟨by show (0:Int) ≤ _; decide, by show (0:Int) ≤ _; decide, by show (0:Int) ≤ _; decide⟩
set_option maxRecDepth 100000 in
set_option maxHeartbeats 8000000 in
theorem LockFrees_any (A : Option Addr) (c : Nat) (ls : List Lk) (x : Ed) (w : World) (hs : Sv w w.heap.size 9 A c (rowsL ls)) (hw : fits x) (hL : Laid w) :
    Calls Tryd.prog 7 #[.slice A ls.length c, .agg #[.int .i64 x.st.tick, .int .i64 x.st.clock, .int .i64 x.st.site, .int .i64 x.st.seq, .int .i64 x.kind, .int .i64 x.box.lo.x, .int .i64 x.box.lo.y, .int .i64 x.box.lo.z, .int .i64 x.box.hi.x, .int .i64 x.box.hi.y, .int .i64 x.box.hi.z, .int .i64 x.at_.x, .int .i64 x.at_.y, .int .i64 x.at_.z, .int .i64 x.turn, .int .i64 x.cell, .int .i64 x.size]] w fun e w' => e = .returned (.bool true) ∧ Ext w w' := by
  have HS := Lib.hid hs
  have HL := Lib.hid hL
  have HW := Lib.hid hw
  have HFW := Lib.hid (fun (w' : World) (hx : Ext w w') => few_any A c ls w' (HS.out.ext hx))
  clear hs hL hw
  cases hf : decide (ls.length ≤ 60) && validR ls
  · rw [hf] at HFW
    clear hf
    go_enter Tryd.func7, Tryd.ntmps7
    go_upto_region 1 with fail
    obtain ⟨W0, hW⟩ : ∃ W, W = w.alloc (.cells #[.int .i64 x.st.tick, .int .i64 x.st.clock, .int .i64 x.st.site, .int .i64 x.st.seq, .int .i64 x.kind, .int .i64 x.box.lo.x, .int .i64 x.box.lo.y, .int .i64 x.box.lo.z, .int .i64 x.box.hi.x, .int .i64 x.box.hi.y, .int .i64 x.box.hi.z, .int .i64 x.at_.x, .int .i64 x.at_.y, .int .i64 x.at_.z, .int .i64 x.turn, .int .i64 x.cell, .int .i64 x.size] 30) := ⟨_, rfl⟩
    have hx0 : Ext w W0 := by rw [hW]; exact (Ext.refl w).alloc _
    have B0 : Arr W0 w.heap.size 30 [.int .i64 x.st.tick, .int .i64 x.st.clock, .int .i64 x.st.site, .int .i64 x.st.seq, .int .i64 x.kind, .int .i64 x.box.lo.x, .int .i64 x.box.lo.y, .int .i64 x.box.lo.z, .int .i64 x.box.hi.x, .int .i64 x.box.hi.y, .int .i64 x.box.hi.z, .int .i64 x.at_.x, .int .i64 x.at_.y, .int .i64 x.at_.z, .int .i64 x.turn, .int .i64 x.cell, .int .i64 x.size] := by rw [hW]; exact Arr.new w _ _
    rw [← hW]
    clear hW
    have cB0 := B0.cell
    have fB0 := B0.frozen
    have lB0 := B0.lt
    go_wp2_with fail
    refine (HFW.out _ hx0).mono ?_
    rintro e w1 ⟨rfl, x1⟩
    go_wp2_with fail
    refine (sanity_any _ (HL.out.ext (hx0.trans x1))).mono ?_
    rintro e w2 ⟨rfl, x2⟩
    go_wp2
    go_ret
    exact ⟨rfl, (hx0.trans x1).trans x2⟩
  · rw [hf] at HFW
    obtain ⟨hv, hb⟩ := few_VT hf
    have HV := Lib.hid hv
    clear hf hv
    by_cases hsq : 1000 ≤ x.st.seq
    · have hd : decide ((1000 : Int) ≤ x.st.seq) = true := decide_eq_true hsq
      clear hsq
      go_enter Tryd.func7, Tryd.ntmps7
      go_upto_region 1 with fail
      obtain ⟨W0, hW⟩ : ∃ W, W = w.alloc (.cells #[.int .i64 x.st.tick, .int .i64 x.st.clock, .int .i64 x.st.site, .int .i64 x.st.seq, .int .i64 x.kind, .int .i64 x.box.lo.x, .int .i64 x.box.lo.y, .int .i64 x.box.lo.z, .int .i64 x.box.hi.x, .int .i64 x.box.hi.y, .int .i64 x.box.hi.z, .int .i64 x.at_.x, .int .i64 x.at_.y, .int .i64 x.at_.z, .int .i64 x.turn, .int .i64 x.cell, .int .i64 x.size] 30) := ⟨_, rfl⟩
      have hx0 : Ext w W0 := by rw [hW]; exact (Ext.refl w).alloc _
      have B0 : Arr W0 w.heap.size 30 [.int .i64 x.st.tick, .int .i64 x.st.clock, .int .i64 x.st.site, .int .i64 x.st.seq, .int .i64 x.kind, .int .i64 x.box.lo.x, .int .i64 x.box.lo.y, .int .i64 x.box.lo.z, .int .i64 x.box.hi.x, .int .i64 x.box.hi.y, .int .i64 x.box.hi.z, .int .i64 x.at_.x, .int .i64 x.at_.y, .int .i64 x.at_.z, .int .i64 x.turn, .int .i64 x.cell, .int .i64 x.size] := by rw [hW]; exact Arr.new w _ _
      rw [← hW]
      clear hW
      have cB0 := B0.cell
      have fB0 := B0.frozen
      have lB0 := B0.lt
      go_wp2_with fail
      refine (HFW.out _ hx0).mono ?_
      rintro e w1 ⟨rfl, x1⟩
      have B1 := Arr.ext B0 x1
      have cB1 := B1.cell
      go_wp2_with fail
      refine (sanity_any _ (HL.out.ext (hx0.trans x1))).mono ?_
      rintro e w2 ⟨rfl, x2⟩
      go_wp2
      go_ret
      exact ⟨rfl, (hx0.trans x1).trans x2⟩
    · have hd : decide ((1000 : Int) ≤ x.st.seq) = false := decide_eq_false hsq
      have HSQ := Lib.hid (show x.st.seq < 1000 by omega)
      clear hsq
      go_enter Tryd.func7, Tryd.ntmps7
      go_upto_region 1 with fail
      obtain ⟨W0, hW⟩ : ∃ W, W = w.alloc (.cells #[.int .i64 x.st.tick, .int .i64 x.st.clock, .int .i64 x.st.site, .int .i64 x.st.seq, .int .i64 x.kind, .int .i64 x.box.lo.x, .int .i64 x.box.lo.y, .int .i64 x.box.lo.z, .int .i64 x.box.hi.x, .int .i64 x.box.hi.y, .int .i64 x.box.hi.z, .int .i64 x.at_.x, .int .i64 x.at_.y, .int .i64 x.at_.z, .int .i64 x.turn, .int .i64 x.cell, .int .i64 x.size] 30) := ⟨_, rfl⟩
      have hx0 : Ext w W0 := by rw [hW]; exact (Ext.refl w).alloc _
      have B0 : Arr W0 w.heap.size 30 [.int .i64 x.st.tick, .int .i64 x.st.clock, .int .i64 x.st.site, .int .i64 x.st.seq, .int .i64 x.kind, .int .i64 x.box.lo.x, .int .i64 x.box.lo.y, .int .i64 x.box.lo.z, .int .i64 x.box.hi.x, .int .i64 x.box.hi.y, .int .i64 x.box.hi.z, .int .i64 x.at_.x, .int .i64 x.at_.y, .int .i64 x.at_.z, .int .i64 x.turn, .int .i64 x.cell, .int .i64 x.size] := by rw [hW]; exact Arr.new w _ _
      rw [← hW]
      clear hW
      have cB0 := B0.cell
      have fB0 := B0.frozen
      have lB0 := B0.lt
      go_wp2_with fail
      refine (HFW.out _ hx0).mono ?_
      rintro e w1 ⟨rfl, x1⟩
      have B1 := Arr.ext B0 x1
      have cB1 := B1.cell
      have X1 := Lib.hid (hx0.trans x1)
      clear x1 hx0 cB0 B0 fB0 lB0
      go_wp2_with (first | (refine wpList_load_blk 30 (.tmp 3) rfl rfl B1 rfl _ Tryd.underlying30 rfl (by kernel_rfl) ?_) | (refine wpList_load_blk 30 (.tmp 3) rfl rfl (B1.alloc _) rfl _ Tryd.underlying30 rfl (by kernel_rfl) ?_) | (refine wpList_load_blk 30 (.tmp 3) rfl rfl ((B1.alloc _).alloc _) rfl _ Tryd.underlying30 rfl (by kernel_rfl) ?_))
      refine (takeP_at HV.out HW.out (by omega) A c w1 (HS.out.ext X1.out) (HL.out.ext X1.out)).mono ?_
      rintro e w2 ⟨A2, c2, rfl, s2, x2⟩
      have X2 := Lib.hid (X1.out.trans x2)
      have B2 := Arr.ext B1 x2
      have cB2 := B2.cell
      clear x2 cB1 B1
      by_cases he : (takeR ls x).2 = 0
      · have hub := undo_facts he HSQ.out
        have htv := take_VT (x := x) HV.out
        have htl := take_len1 ls x
        have HUB := Lib.hid hub
        have HTV := Lib.hid htv
        have hg := (lock_good (take_ok he).1).1
        have hsq1 : 1 ≤ x.st.seq := hg.seq.1
        have hsq2 := HSQ.out
        have HFE := Lib.hid (fun w' => show Calls Tryd.prog 28 #[.int .i64 x.st.tick, .int .i64 x.st.site, .int .i64 (x.st.seq + 1), .int .i64 x.st.seq] w' fun e w'' => e = .returned (.agg #[.int .i64 (undoE x).st.tick, .int .i64 (undoE x).st.clock, .int .i64 (undoE x).st.site, .int .i64 (undoE x).st.seq, .int .i64 (undoE x).kind, .int .i64 (undoE x).box.lo.x, .int .i64 (undoE x).box.lo.y, .int .i64 (undoE x).box.lo.z, .int .i64 (undoE x).box.hi.x, .int .i64 (undoE x).box.hi.y, .int .i64 (undoE x).box.hi.z, .int .i64 (undoE x).at_.x, .int .i64 (undoE x).at_.y, .int .i64 (undoE x).at_.z, .int .i64 (undoE x).turn, .int .i64 (undoE x).cell, .int .i64 (undoE x).size]) ∧ Ext w' w'' from lawfree_any x.st.tick x.st.site (x.st.seq + 1) x.st.seq w')
        clear hub htv hg
        rw [he]
        clear he
        go_wp2_with fail
        refine (HFE.out _).mono ?_
        rintro e w3 ⟨rfl, x3⟩
        have X3 := Lib.hid (X2.out.trans x3)
        have S3 := Lib.hid (s2.ext x3)
        have B3 := Arr.ext B2 x3
        have D4 := Arr.new w3 30 [.int .i64 zeroEd.st.tick, .int .i64 zeroEd.st.clock, .int .i64 zeroEd.st.site, .int .i64 zeroEd.st.seq, .int .i64 zeroEd.kind, .int .i64 zeroEd.box.lo.x, .int .i64 zeroEd.box.lo.y, .int .i64 zeroEd.box.lo.z, .int .i64 zeroEd.box.hi.x, .int .i64 zeroEd.box.hi.y, .int .i64 zeroEd.box.hi.z, .int .i64 zeroEd.at_.x, .int .i64 zeroEd.at_.y, .int .i64 zeroEd.at_.z, .int .i64 zeroEd.turn, .int .i64 zeroEd.cell, .int .i64 zeroEd.size]
        have D5 := D4.setRow [.int .i64 (undoE x).st.tick, .int .i64 (undoE x).st.clock, .int .i64 (undoE x).st.site, .int .i64 (undoE x).st.seq, .int .i64 (undoE x).kind, .int .i64 (undoE x).box.lo.x, .int .i64 (undoE x).box.lo.y, .int .i64 (undoE x).box.lo.z, .int .i64 (undoE x).box.hi.x, .int .i64 (undoE x).box.hi.y, .int .i64 (undoE x).box.hi.z, .int .i64 (undoE x).at_.x, .int .i64 (undoE x).at_.y, .int .i64 (undoE x).at_.z, .int .i64 (undoE x).turn, .int .i64 (undoE x).cell, .int .i64 (undoE x).size]
        have xa : Ext w3 ((w3.alloc (.cells [.int .i64 zeroEd.st.tick, .int .i64 zeroEd.st.clock, .int .i64 zeroEd.st.site, .int .i64 zeroEd.st.seq, .int .i64 zeroEd.kind, .int .i64 zeroEd.box.lo.x, .int .i64 zeroEd.box.lo.y, .int .i64 zeroEd.box.lo.z, .int .i64 zeroEd.box.hi.x, .int .i64 zeroEd.box.hi.y, .int .i64 zeroEd.box.hi.z, .int .i64 zeroEd.at_.x, .int .i64 zeroEd.at_.y, .int .i64 zeroEd.at_.z, .int .i64 zeroEd.turn, .int .i64 zeroEd.cell, .int .i64 zeroEd.size].toArray 30)).setRow w3.heap.size [.int .i64 (undoE x).st.tick, .int .i64 (undoE x).st.clock, .int .i64 (undoE x).st.site, .int .i64 (undoE x).st.seq, .int .i64 (undoE x).kind, .int .i64 (undoE x).box.lo.x, .int .i64 (undoE x).box.lo.y, .int .i64 (undoE x).box.lo.z, .int .i64 (undoE x).box.hi.x, .int .i64 (undoE x).box.hi.y, .int .i64 (undoE x).box.hi.z, .int .i64 (undoE x).at_.x, .int .i64 (undoE x).at_.y, .int .i64 (undoE x).at_.z, .int .i64 (undoE x).turn, .int .i64 (undoE x).cell, .int .i64 (undoE x).size].toArray) := ((Ext.refl w3).alloc _).setRow (Nat.le_refl _) _
        have X4 := Lib.hid (X3.out.trans xa)
        have S4 := Lib.hid (S3.out.ext xa)
        have B4 := Arr.ext B3 xa
        clear x3 s2 B2 B3 cB2 xa hsq1 hsq2
        generalize hml : (takeR ls x).1 = ml at S3 S4 HUB HTV htl
        have HML := Lib.hid hml
        clear hml
        go_wp2_with (first | (refine wpList_store_blk 30 (.tmp 7) (.tmp 46) rfl rfl D4 [.int .i64 (undoE x).st.tick, .int .i64 (undoE x).st.clock, .int .i64 (undoE x).st.site, .int .i64 (undoE x).st.seq, .int .i64 (undoE x).kind, .int .i64 (undoE x).box.lo.x, .int .i64 (undoE x).box.lo.y, .int .i64 (undoE x).box.lo.z, .int .i64 (undoE x).box.hi.x, .int .i64 (undoE x).box.hi.y, .int .i64 (undoE x).box.hi.z, .int .i64 (undoE x).at_.x, .int .i64 (undoE x).at_.y, .int .i64 (undoE x).at_.z, .int .i64 (undoE x).turn, .int .i64 (undoE x).cell, .int .i64 (undoE x).size] rfl rfl (by kernel_rfl) rfl rfl ?_) | (refine wpList_load_blk 30 (.tmp 7) rfl rfl D5 rfl _ Tryd.underlying30 rfl (by kernel_rfl) ?_) | (refine wpList_load_blk 30 (.tmp 7) rfl rfl (D5.alloc _) rfl _ Tryd.underlying30 rfl (by kernel_rfl) ?_) | (refine wpList_load_blk 30 (.tmp 7) rfl rfl ((D5.alloc _).alloc _) rfl _ Tryd.underlying30 rfl (by kernel_rfl) ?_))
        have h5 := freeP_at (x := undoE x) HTV.out (fits_undo x) (by omega) A2 c2 _ S4.out (HL.out.ext X4.out)
        rw [HUB.out.1] at h5
        refine h5.mono ?_
        rintro e w5 ⟨A5, c5, rfl, s5, x5⟩
        have X5 := Lib.hid (X4.out.trans x5)
        have S5 := Lib.hid (S4.out.ext x5)
        have D6 := Arr.ext D5 x5
        have B5 := Arr.ext B4 x5
        clear x5 h5 D5 D4 B4
        have hfl := filter_len (livesL x.st.tick) ls
        have HLV := Lib.hid (HV.out.filter (livesL x.st.tick))
        have HEX := Lib.hid (fun (w' : World) (hx : Ext w w') => (Expire_any A c ls w' (HS.out.ext hx) (by omega) x.st.tick).mono fun _ _ h => RetL.read h)
        generalize ls.filter (livesL x.st.tick) = lv at s5 HUB HLV HEX hfl ⊢
        go_wp2_with (first | (refine wpList_load_blk 30 (.tmp 7) rfl rfl D6 rfl _ Tryd.underlying30 rfl (by kernel_rfl) ?_) | (refine wpList_load_blk 30 (.tmp 7) rfl rfl (D6.alloc _) rfl _ Tryd.underlying30 rfl (by kernel_rfl) ?_) | (refine wpList_load_blk 30 (.tmp 7) rfl rfl ((D6.alloc _).alloc _) rfl _ Tryd.underlying30 rfl (by kernel_rfl) ?_))
        have h6 := freeP_at (x := undoE x) HLV.out (fits_undo x) (by omega) A5 c5 _ s5 (HL.out.ext X5.out)
        rw [HUB.out.2.1] at h6
        refine h6.mono ?_
        rintro e w6 ⟨A6, c6, rfl, _, x6⟩
        have X6 := Lib.hid (X5.out.trans x6)
        have S6 := Lib.hid (S5.out.ext x6)
        have s6 := s5.ext x6
        have B6 := Arr.ext B5 x6
        clear x6 h6 s5 D6 B5
        generalize (freeR lv (undoE x)).1 = m2
        go_wp2_with (first | (refine wpList_load_blk 30 (.tmp 3) rfl rfl B6 rfl _ Tryd.underlying30 rfl (by kernel_rfl) ?_) | (refine wpList_load_blk 30 (.tmp 3) rfl rfl (B6.alloc _) rfl _ Tryd.underlying30 rfl (by kernel_rfl) ?_) | (refine wpList_load_blk 30 (.tmp 3) rfl rfl ((B6.alloc _).alloc _) rfl _ Tryd.underlying30 rfl (by kernel_rfl) ?_))
        have h7 := takeP_at (x := x) HTV.out HW.out (by omega) A2 c2 _ S6.out (HL.out.ext X6.out)
        rw [HUB.out.2.2] at h7
        refine h7.mono ?_
        rintro e w7 ⟨A7, c7, rfl, _, x7⟩
        have X7 := Lib.hid (X6.out.trans x7)
        have s7 := s6.ext x7
        have B7 := Arr.ext B6 x7
        clear x7 h7 s6 B6
        generalize (takeR ml x).1 = m3
        go_wp2_with fail
        refine (sanity_any _ (HL.out.ext X7.out)).mono ?_
        rintro e w8 ⟨rfl, x8⟩
        have X8 := Lib.hid (X7.out.trans x8)
        have s8 := s7.ext x8
        have B8 := Arr.ext B7 x8
        have cB8 := B8.cell
        clear x8 s7 B7 B8
        go_wp2_with fail
        refine (HEX.out _ X8.out).mono ?_
        rintro e w9 ⟨A9, c9, rfl, s9, x9⟩
        have X9 := Lib.hid (X8.out.trans x9)
        have s8 := s8.ext x9
        clear cB8 x9
        go_wp2_with fail
        refine (refSame_any A5 A9 c5 c9 lv lv w9 s8 s9).mono ?_
        rintro e w10 ⟨rfl, x10⟩
        rw [decide_eq_true rfl]
        go_wp2
        go_ret
        exact ⟨rfl, X9.out.trans x10⟩
      · have hne : ((takeR ls x).2 == 0) = false := by simpa using he
        clear he
        generalize (takeR ls x).2 = er at hne ⊢
        go_wp2_with fail
        refine (sanity_any _ (HL.out.ext X2.out)).mono ?_
        rintro e w3 ⟨rfl, x3⟩
        go_wp2
        go_ret
        exact ⟨rfl, X2.out.trans x3⟩
end Go.Proofs.YtjceebpafnnffaaDoor

namespace Go.Proofs.YtjceebpafnnffaaDoor
open Go Go.RowKit

theorem blocks_def (ls : List Lk) (site now : Int) (p : Pt) : blocksL ls site now p = (decide (ownerL ls now p ≠ 0) && decide (ownerL ls now p ≠ site)) := rfl
set_option maxRecDepth 100000 in
set_option maxHeartbeats 16000000 in
theorem LockBlocksOthers_any (A : Option Addr) (c : Nat) (ls : List Lk) (x : Ed) (later site : Int) (p : Pt) (w : World) (hs : Sv w w.heap.size 9 A c (rowsL ls)) (hw : fits x) (h1 : 0 ≤ later ∧ later ≤ 255) (h2 : 0 ≤ site ∧ site ≤ 255) (hL : Laid w) :
    Calls Tryd.prog 6 #[.slice A ls.length c, .agg #[.int .i64 x.st.tick, .int .i64 x.st.clock, .int .i64 x.st.site, .int .i64 x.st.seq, .int .i64 x.kind, .int .i64 x.box.lo.x, .int .i64 x.box.lo.y, .int .i64 x.box.lo.z, .int .i64 x.box.hi.x, .int .i64 x.box.hi.y, .int .i64 x.box.hi.z, .int .i64 x.at_.x, .int .i64 x.at_.y, .int .i64 x.at_.z, .int .i64 x.turn, .int .i64 x.cell, .int .i64 x.size], .int .u8 later, .int .u8 site, .agg #[.int .i64 p.x, .int .i64 p.y, .int .i64 p.z]] w fun e w' => e = .returned (.bool true) ∧ Ext w w' := by
  have hm := mixed
  have hG := near_old
  have HS := Lib.hid hs
  have HL := Lib.hid hL
  have HW := Lib.hid hw
  have HFW := Lib.hid (fun (w' : World) (hx : Ext w w') => few_any A c ls w' (HS.out.ext hx))
  have B0 := (Arr.new w 30 [.int .i64 x.st.tick, .int .i64 x.st.clock, .int .i64 x.st.site, .int .i64 x.st.seq, .int .i64 x.kind, .int .i64 x.box.lo.x, .int .i64 x.box.lo.y, .int .i64 x.box.lo.z, .int .i64 x.box.hi.x, .int .i64 x.box.hi.y, .int .i64 x.box.hi.z, .int .i64 x.at_.x, .int .i64 x.at_.y, .int .i64 x.at_.z, .int .i64 x.turn, .int .i64 x.cell, .int .i64 x.size]).alloc (.cells #[.int .i64 p.x, .int .i64 p.y, .int .i64 p.z] 26)
  have D0 := Arr.new1 w (.cells #[.int .i64 x.st.tick, .int .i64 x.st.clock, .int .i64 x.st.site, .int .i64 x.st.seq, .int .i64 x.kind, .int .i64 x.box.lo.x, .int .i64 x.box.lo.y, .int .i64 x.box.lo.z, .int .i64 x.box.hi.x, .int .i64 x.box.hi.y, .int .i64 x.box.hi.z, .int .i64 x.at_.x, .int .i64 x.at_.y, .int .i64 x.at_.z, .int .i64 x.turn, .int .i64 x.cell, .int .i64 x.size] 30) 26 [.int .i64 p.x, .int .i64 p.y, .int .i64 p.z]
  have hx0 : Ext w ((w.alloc (.cells #[.int .i64 x.st.tick, .int .i64 x.st.clock, .int .i64 x.st.site, .int .i64 x.st.seq, .int .i64 x.kind, .int .i64 x.box.lo.x, .int .i64 x.box.lo.y, .int .i64 x.box.lo.z, .int .i64 x.box.hi.x, .int .i64 x.box.hi.y, .int .i64 x.box.hi.z, .int .i64 x.at_.x, .int .i64 x.at_.y, .int .i64 x.at_.z, .int .i64 x.turn, .int .i64 x.cell, .int .i64 x.size] 30)).alloc (.cells #[.int .i64 p.x, .int .i64 p.y, .int .i64 p.z] 26)) := ((Ext.refl w).alloc _).alloc _
  have X0 := Lib.hid hx0
  have HB0 := Lib.hid B0
  have HD0 := Lib.hid D0
  clear hs hL hw B0 D0 hx0
  cases hf : decide (ls.length ≤ 60) && validR ls
  · rw [hf] at HFW
    clear hf
    go_enter Tryd.func6, Tryd.ntmps6
    go_wp2_with fail
    refine (HFW.out _ X0.out).mono ?_
    rintro e w1 ⟨rfl, x1⟩
    go_wp2_with fail
    refine (sanity_any _ (HL.out.ext (X0.out.trans x1))).mono ?_
    rintro e w2 ⟨rfl, x2⟩
    go_wp2
    go_ret
    exact ⟨rfl, (X0.out.trans x1).trans x2⟩
  · rw [hf] at HFW
    obtain ⟨hv, hb⟩ := few_VT hf
    have HV := Lib.hid hv
    clear hf hv
    go_enter Tryd.func6, Tryd.ntmps6
    go_wp2_with fail
    refine (HFW.out _ X0.out).mono ?_
    rintro e w1 ⟨rfl, x1⟩
    have X1 := Lib.hid (X0.out.trans x1)
    have B1 := Arr.ext HB0.out x1
    have HD1 := Lib.hid (Arr.ext HD0.out x1)
    clear x1
    go_wp2_with (first | (refine wpList_load_blk 30 (.tmp 6) rfl rfl B1 rfl _ Tryd.underlying30 rfl (by kernel_rfl) ?_) | (refine wpList_load_blk 30 (.tmp 6) rfl rfl (B1.alloc _) rfl _ Tryd.underlying30 rfl (by kernel_rfl) ?_) | (refine wpList_load_blk 30 (.tmp 6) rfl rfl ((B1.alloc _).alloc _) rfl _ Tryd.underlying30 rfl (by kernel_rfl) ?_))
    refine (takeP_at HV.out HW.out (by omega) A c w1 (HS.out.ext X1.out) (HL.out.ext X1.out)).mono ?_
    rintro e w2 ⟨A2, c2, rfl, s2, x2⟩
    have X2 := Lib.hid (X1.out.trans x2)
    have B2 := Arr.ext B1 x2
    have HB2 := Lib.hid B2
    have HD2 := Lib.hid (Arr.ext HD1.out x2)
    have S2 := Lib.hid s2
    clear x2 B1 B2 s2
    by_cases he : (takeR ls x).2 = 0
    · have HE := Lib.hid he
      have HTV := Lib.hid (take_VT (x := x) HV.out)
      have htl := take_len1 ls x
      have hlg := lock_good (take_ok he).1
      have ht0 := hlg.2.2
      have ht1 := hlg.2.1
      have ht2 : x.size ≤ 4000 := hlg.1.til.2
      have hsite : 1 ≤ x.st.site ∧ x.st.site ≤ 8 := hlg.1.site
      have HNH := Lib.hid (fun (hp : ¬ (inP p x.box = true ∧ x.st.tick + later ≤ x.size)) => take_else HV.out he (show x.st.tick ≤ x.st.tick + later by omega) hp)
      have HYH := Lib.hid (fun (hp : inP p x.box = true) (ht : x.st.tick + later ≤ x.size) => take_blocks HV.out he hp ht)
      rw [he]
      generalize (takeR ls x).1 = ml at S2 HTV htl HNH HYH ⊢
      clear he hlg
      have cB := HB2.out.cell
      have lB := HB2.out.lt
      have w1a : IntKind.i64.wrap site = site := IntWalk.i64_in _ (by omega)
      have w2a : IntKind.i64.wrap later = later := IntWalk.i64_in _ (by omega)
      have w3a : site.tmod 8 = site % 8 := Int.tmod_eq_emod_of_nonneg h2.1
      have w4a : IntKind.i64.wrap (site % 8 + 1) = site % 8 + 1 := IntWalk.i64_in _ (by omega)
      have w5a : IntKind.i64.wrap (x.st.tick + later) = x.st.tick + later := IntWalk.i64_in _ (by omega)
      go_wp2_with fail
      refine wp_region_near (by assumption) (by kernel_rfl) ?_
      repeat (go_big_quiet_step (fail))
      refine wpQuiet_nil ?_
      intro w1 hw1
      have hy := Ext.of_near hw1
      clear hw1
      clear w1a w2a w3a w4a w5a cB lB
      have X3 := Lib.hid (X2.out.trans hy)
      have B3 := HB2.out.ext hy
      have D3 := HD2.out.ext hy
      have S3 := S2.out.ext hy
      have T3 := HS.out.ext X3.out
      clear hy
      generalize hoth : site % 8 + 1 = oth
      generalize htk : x.st.tick + later = tk at HNH HYH ⊢
      clear hoth htk
      go_wp2_with (first | (refine wpList_load_blk 26 (.tmp 9) rfl rfl D3 rfl _ Tryd.underlying26 rfl (by kernel_rfl) ?_) | (refine wpList_load_blk 26 (.tmp 9) rfl rfl (D3.alloc _) rfl _ Tryd.underlying26 rfl (by kernel_rfl) ?_) | (refine wpList_load_blk 26 (.tmp 9) rfl rfl ((D3.alloc _).alloc _) rfl _ Tryd.underlying26 rfl (by kernel_rfl) ?_) | (refine wpList_load_part 28 (.tmp 44) rfl rfl B3 5 [.int .i64 x.box.lo.x, .int .i64 x.box.lo.y, .int .i64 x.box.lo.z, .int .i64 x.box.hi.x, .int .i64 x.box.hi.y, .int .i64 x.box.hi.z] rfl rfl _ Tryd.underlying28 rfl (by kernel_rfl) ?_) | (refine wpList_load_part 28 (.tmp 44) rfl rfl (B3.alloc _) 5 [.int .i64 x.box.lo.x, .int .i64 x.box.lo.y, .int .i64 x.box.lo.z, .int .i64 x.box.hi.x, .int .i64 x.box.hi.y, .int .i64 x.box.hi.z] rfl rfl _ Tryd.underlying28 rfl (by kernel_rfl) ?_))
      refine (refIn_any p x.box _).mono ?_
      rintro e w4 ⟨rfl, xx⟩
      have X3 := Lib.hid (X3.out.trans xx)
      have B3 := B3.ext xx
      have D3 := D3.ext xx
      have S3 := S3.ext xx
      have T3 := T3.ext xx
      clear xx
      have cB3 := B3.cell
      have lB3 := B3.lt
      by_cases hH : inP p x.box = true ∧ tk ≤ x.size
      · have HO := Lib.hid (HYH.out hH.1 hH.2)
        have hle : decide (tk ≤ x.size) = true := decide_eq_true hH.2
        rw [hH.1]
        clear hH HNH HYH
        have HB1 := Lib.hid (show blocksL ml x.st.site tk p = false from by rw [blocks_def, HO.out]; simp)
        by_cases hoo : oth = x.st.site
        · have hb9 : (oth != x.st.site) = false := by simp [hoo]
          clear hoo
          go_wp2_with (first | (refine wpList_load_blk 26 (.tmp 9) rfl rfl D3 rfl _ Tryd.underlying26 rfl (by kernel_rfl) ?_) | (refine wpList_load_blk 26 (.tmp 9) rfl rfl (D3.alloc _) rfl _ Tryd.underlying26 rfl (by kernel_rfl) ?_) | (refine wpList_load_blk 26 (.tmp 9) rfl rfl ((D3.alloc _).alloc _) rfl _ Tryd.underlying26 rfl (by kernel_rfl) ?_))
          refine (blocks_at HB1.out (by omega) A2 c2 _ S3).mono ?_
          rintro e w5 ⟨rfl, xx⟩
          have X3 := Lib.hid (X3.out.trans xx)
          have B3 := B3.ext xx
          have D3 := D3.ext xx
          have S3 := S3.ext xx
          have T3 := T3.ext xx
          clear xx
          have cB3 := B3.cell
          have lB3 := B3.lt
          go_wp2_with fail
          have cD3 := D3.cell
          have lD3 := D3.lt
          have HNS := Lib.hid (fun (w' : World) (hx : Ext _ w') => sanity_any w' (HL.out.ext (X3.out.trans hx)))
          refine wp_region_near (by assumption) (by kernel_rfl) ?_
          repeat (go_big_quiet_step ((first | (go_at_call 10; exact near_call (HNS.out _ (Ext.of_near ⟨⟨_, _⟩, rfl⟩))))))
          refine wpQuiet_nil ?_
          intro w1 hw1
          have hy := Ext.of_near hw1
          clear hw1
          go_wp2
          go_ret
          exact ⟨ret_bool (by simp), X3.out.trans hy⟩
        · have hb9 : (oth != x.st.site) = true := by simpa using hoo
          have HB9 := Lib.hid (show blocksL ml oth tk p = true from by rw [blocks_def, HO.out]; simp; exact ⟨by omega, fun h => hoo h.symm⟩)
          clear hoo
          go_wp2_with (first | (refine wpList_load_blk 26 (.tmp 9) rfl rfl D3 rfl _ Tryd.underlying26 rfl (by kernel_rfl) ?_) | (refine wpList_load_blk 26 (.tmp 9) rfl rfl (D3.alloc _) rfl _ Tryd.underlying26 rfl (by kernel_rfl) ?_) | (refine wpList_load_blk 26 (.tmp 9) rfl rfl ((D3.alloc _).alloc _) rfl _ Tryd.underlying26 rfl (by kernel_rfl) ?_))
          refine (blocks_at HB9.out (by omega) A2 c2 _ S3).mono ?_
          rintro e w6 ⟨rfl, xx⟩
          have X3 := Lib.hid (X3.out.trans xx)
          have B3 := B3.ext xx
          have D3 := D3.ext xx
          have S3 := S3.ext xx
          have T3 := T3.ext xx
          clear xx
          have cB3 := B3.cell
          have lB3 := B3.lt
          go_wp2_with (first | (refine wpList_load_blk 26 (.tmp 9) rfl rfl D3 rfl _ Tryd.underlying26 rfl (by kernel_rfl) ?_) | (refine wpList_load_blk 26 (.tmp 9) rfl rfl (D3.alloc _) rfl _ Tryd.underlying26 rfl (by kernel_rfl) ?_) | (refine wpList_load_blk 26 (.tmp 9) rfl rfl ((D3.alloc _).alloc _) rfl _ Tryd.underlying26 rfl (by kernel_rfl) ?_))
          refine (blocks_at HB1.out (by omega) A2 c2 _ S3).mono ?_
          rintro e w7 ⟨rfl, xx⟩
          have X3 := Lib.hid (X3.out.trans xx)
          have B3 := B3.ext xx
          have D3 := D3.ext xx
          have S3 := S3.ext xx
          have T3 := T3.ext xx
          clear xx
          have cB3 := B3.cell
          have lB3 := B3.lt
          go_wp2_with fail
          have cD3 := D3.cell
          have lD3 := D3.lt
          have HNS := Lib.hid (fun (w' : World) (hx : Ext _ w') => sanity_any w' (HL.out.ext (X3.out.trans hx)))
          refine wp_region_near (by assumption) (by kernel_rfl) ?_
          repeat (go_big_quiet_step ((first | (go_at_call 10; exact near_call (HNS.out _ (Ext.of_near ⟨⟨_, _⟩, rfl⟩))))))
          refine wpQuiet_nil ?_
          intro w1 hw1
          have hy := Ext.of_near hw1
          clear hw1
          go_wp2
          go_ret
          exact ⟨ret_bool (by simp), X3.out.trans hy⟩
      · have HOO := Lib.hid (HNH.out hH)
        obtain ⟨o, ho⟩ : ∃ o, o = ownerL ls tk p := ⟨_, rfl⟩
        have HO2 := Lib.hid ho.symm
        have HO := Lib.hid (HOO.out.trans ho.symm)
        clear ho HOO HNH HYH
        obtain ⟨bb, hbb⟩ : ∃ bb, bb = (decide (o ≠ 0) && decide (o ≠ x.st.site)) := ⟨_, rfl⟩
        have HBM := Lib.hid (show blocksL ml x.st.site tk p = bb from by rw [blocks_def, HO.out, hbb])
        have HBL := Lib.hid (show blocksL ls x.st.site tk p = bb from by rw [blocks_def, HO2.out, hbb])
        clear hbb
        cases hin : inP p x.box
        · clear hH hin
          cases bb
          · go_wp2_with (first | (refine wpList_load_blk 26 (.tmp 9) rfl rfl D3 rfl _ Tryd.underlying26 rfl (by kernel_rfl) ?_) | (refine wpList_load_blk 26 (.tmp 9) rfl rfl (D3.alloc _) rfl _ Tryd.underlying26 rfl (by kernel_rfl) ?_) | (refine wpList_load_blk 26 (.tmp 9) rfl rfl ((D3.alloc _).alloc _) rfl _ Tryd.underlying26 rfl (by kernel_rfl) ?_))
            refine (blocks_at HBM.out (by omega) A2 c2 _ S3).mono ?_
            rintro e w8 ⟨rfl, xx⟩
            have X3 := Lib.hid (X3.out.trans xx)
            have B3 := B3.ext xx
            have D3 := D3.ext xx
            have S3 := S3.ext xx
            have T3 := T3.ext xx
            clear xx
            have cB3 := B3.cell
            have lB3 := B3.lt
            go_wp2_with fail
            have cD3 := D3.cell
            have lD3 := D3.lt
            have HNS := Lib.hid (fun (w' : World) (hx : Ext _ w') => sanity_any w' (HL.out.ext (X3.out.trans hx)))
            have HNM := Lib.hid (fun (w' : World) (hx : Ext _ w') => owner_at (now := tk) (p := p) HO.out (by omega) A2 c2 w' (S3.ext hx))
            have HNL := Lib.hid (fun (w' : World) (hx : Ext _ w') => owner_at (now := tk) (p := p) HO2.out (by omega) A c w' (T3.ext hx))
            refine wp_region_near (by assumption) (by kernel_rfl) ?_
            repeat (go_big_quiet_step ((first | (go_at_call 10; exact near_call (HNS.out _ (Ext.of_near ⟨⟨_, _⟩, rfl⟩))) | (go_at_call 20; first | with_reducible exact near_call (HNM.out _ (Ext.of_near ⟨⟨_, _⟩, rfl⟩)) | with_reducible exact near_call (HNL.out _ (Ext.of_near ⟨⟨_, _⟩, rfl⟩))))))
            refine wpQuiet_nil ?_
            intro w1 hw1
            have hy := Ext.of_near hw1
            clear hw1
            go_wp2
            go_ret
            exact ⟨ret_bool (by simp), X3.out.trans hy⟩
          · go_wp2_with (first | (refine wpList_load_blk 26 (.tmp 9) rfl rfl D3 rfl _ Tryd.underlying26 rfl (by kernel_rfl) ?_) | (refine wpList_load_blk 26 (.tmp 9) rfl rfl (D3.alloc _) rfl _ Tryd.underlying26 rfl (by kernel_rfl) ?_) | (refine wpList_load_blk 26 (.tmp 9) rfl rfl ((D3.alloc _).alloc _) rfl _ Tryd.underlying26 rfl (by kernel_rfl) ?_))
            refine (blocks_at HBM.out (by omega) A2 c2 _ S3).mono ?_
            rintro e w9 ⟨rfl, xx⟩
            have X3 := Lib.hid (X3.out.trans xx)
            have B3 := B3.ext xx
            have D3 := D3.ext xx
            have S3 := S3.ext xx
            have T3 := T3.ext xx
            clear xx
            have cB3 := B3.cell
            have lB3 := B3.lt
            go_wp2_with (first | (refine wpList_load_blk 26 (.tmp 9) rfl rfl D3 rfl _ Tryd.underlying26 rfl (by kernel_rfl) ?_) | (refine wpList_load_blk 26 (.tmp 9) rfl rfl (D3.alloc _) rfl _ Tryd.underlying26 rfl (by kernel_rfl) ?_) | (refine wpList_load_blk 26 (.tmp 9) rfl rfl ((D3.alloc _).alloc _) rfl _ Tryd.underlying26 rfl (by kernel_rfl) ?_))
            refine (blocks_at HBL.out (by omega) A c _ T3).mono ?_
            rintro e w10 ⟨rfl, xx⟩
            have X3 := Lib.hid (X3.out.trans xx)
            have B3 := B3.ext xx
            have D3 := D3.ext xx
            have S3 := S3.ext xx
            have T3 := T3.ext xx
            clear xx
            have cB3 := B3.cell
            have lB3 := B3.lt
            go_wp2_with fail
            have cD3 := D3.cell
            have lD3 := D3.lt
            have HNS := Lib.hid (fun (w' : World) (hx : Ext _ w') => sanity_any w' (HL.out.ext (X3.out.trans hx)))
            have HNM := Lib.hid (fun (w' : World) (hx : Ext _ w') => owner_at (now := tk) (p := p) HO.out (by omega) A2 c2 w' (S3.ext hx))
            have HNL := Lib.hid (fun (w' : World) (hx : Ext _ w') => owner_at (now := tk) (p := p) HO2.out (by omega) A c w' (T3.ext hx))
            refine wp_region_near (by assumption) (by kernel_rfl) ?_
            repeat (go_big_quiet_step ((first | (go_at_call 10; exact near_call (HNS.out _ (Ext.of_near ⟨⟨_, _⟩, rfl⟩))) | (go_at_call 20; first | with_reducible exact near_call (HNM.out _ (Ext.of_near ⟨⟨_, _⟩, rfl⟩)) | with_reducible exact near_call (HNL.out _ (Ext.of_near ⟨⟨_, _⟩, rfl⟩))))))
            refine wpQuiet_nil ?_
            intro w1 hw1
            have hy := Ext.of_near hw1
            clear hw1
            go_wp2
            go_ret
            exact ⟨ret_bool (by simp), X3.out.trans hy⟩
        · have hle : decide (tk ≤ x.size) = false := decide_eq_false (fun h => hH ⟨hin, h⟩)
          clear hH hin
          by_cases hoo : oth = x.st.site
          · have hb9 : (oth != x.st.site) = false := by simp [hoo]
            clear hoo
            cases bb
            · go_wp2_with (first | (refine wpList_load_blk 26 (.tmp 9) rfl rfl D3 rfl _ Tryd.underlying26 rfl (by kernel_rfl) ?_) | (refine wpList_load_blk 26 (.tmp 9) rfl rfl (D3.alloc _) rfl _ Tryd.underlying26 rfl (by kernel_rfl) ?_) | (refine wpList_load_blk 26 (.tmp 9) rfl rfl ((D3.alloc _).alloc _) rfl _ Tryd.underlying26 rfl (by kernel_rfl) ?_))
              refine (blocks_at HBM.out (by omega) A2 c2 _ S3).mono ?_
              rintro e w11 ⟨rfl, xx⟩
              have X3 := Lib.hid (X3.out.trans xx)
              have B3 := B3.ext xx
              have D3 := D3.ext xx
              have S3 := S3.ext xx
              have T3 := T3.ext xx
              clear xx
              have cB3 := B3.cell
              have lB3 := B3.lt
              go_wp2_with fail
              have cD3 := D3.cell
              have lD3 := D3.lt
              have HNS := Lib.hid (fun (w' : World) (hx : Ext _ w') => sanity_any w' (HL.out.ext (X3.out.trans hx)))
              have HNM := Lib.hid (fun (w' : World) (hx : Ext _ w') => owner_at (now := tk) (p := p) HO.out (by omega) A2 c2 w' (S3.ext hx))
              have HNL := Lib.hid (fun (w' : World) (hx : Ext _ w') => owner_at (now := tk) (p := p) HO2.out (by omega) A c w' (T3.ext hx))
              refine wp_region_near (by assumption) (by kernel_rfl) ?_
              repeat (go_big_quiet_step ((first | (go_at_call 10; exact near_call (HNS.out _ (Ext.of_near ⟨⟨_, _⟩, rfl⟩))) | (go_at_call 20; first | with_reducible exact near_call (HNM.out _ (Ext.of_near ⟨⟨_, _⟩, rfl⟩)) | with_reducible exact near_call (HNL.out _ (Ext.of_near ⟨⟨_, _⟩, rfl⟩))))))
              refine wpQuiet_nil ?_
              intro w1 hw1
              have hy := Ext.of_near hw1
              clear hw1
              go_wp2
              go_ret
              exact ⟨ret_bool (by simp), X3.out.trans hy⟩
            · go_wp2_with (first | (refine wpList_load_blk 26 (.tmp 9) rfl rfl D3 rfl _ Tryd.underlying26 rfl (by kernel_rfl) ?_) | (refine wpList_load_blk 26 (.tmp 9) rfl rfl (D3.alloc _) rfl _ Tryd.underlying26 rfl (by kernel_rfl) ?_) | (refine wpList_load_blk 26 (.tmp 9) rfl rfl ((D3.alloc _).alloc _) rfl _ Tryd.underlying26 rfl (by kernel_rfl) ?_))
              refine (blocks_at HBM.out (by omega) A2 c2 _ S3).mono ?_
              rintro e w12 ⟨rfl, xx⟩
              have X3 := Lib.hid (X3.out.trans xx)
              have B3 := B3.ext xx
              have D3 := D3.ext xx
              have S3 := S3.ext xx
              have T3 := T3.ext xx
              clear xx
              have cB3 := B3.cell
              have lB3 := B3.lt
              go_wp2_with (first | (refine wpList_load_blk 26 (.tmp 9) rfl rfl D3 rfl _ Tryd.underlying26 rfl (by kernel_rfl) ?_) | (refine wpList_load_blk 26 (.tmp 9) rfl rfl (D3.alloc _) rfl _ Tryd.underlying26 rfl (by kernel_rfl) ?_) | (refine wpList_load_blk 26 (.tmp 9) rfl rfl ((D3.alloc _).alloc _) rfl _ Tryd.underlying26 rfl (by kernel_rfl) ?_))
              refine (blocks_at HBL.out (by omega) A c _ T3).mono ?_
              rintro e w13 ⟨rfl, xx⟩
              have X3 := Lib.hid (X3.out.trans xx)
              have B3 := B3.ext xx
              have D3 := D3.ext xx
              have S3 := S3.ext xx
              have T3 := T3.ext xx
              clear xx
              have cB3 := B3.cell
              have lB3 := B3.lt
              go_wp2_with fail
              have cD3 := D3.cell
              have lD3 := D3.lt
              have HNS := Lib.hid (fun (w' : World) (hx : Ext _ w') => sanity_any w' (HL.out.ext (X3.out.trans hx)))
              have HNM := Lib.hid (fun (w' : World) (hx : Ext _ w') => owner_at (now := tk) (p := p) HO.out (by omega) A2 c2 w' (S3.ext hx))
              have HNL := Lib.hid (fun (w' : World) (hx : Ext _ w') => owner_at (now := tk) (p := p) HO2.out (by omega) A c w' (T3.ext hx))
              refine wp_region_near (by assumption) (by kernel_rfl) ?_
              repeat (go_big_quiet_step ((first | (go_at_call 10; exact near_call (HNS.out _ (Ext.of_near ⟨⟨_, _⟩, rfl⟩))) | (go_at_call 20; first | with_reducible exact near_call (HNM.out _ (Ext.of_near ⟨⟨_, _⟩, rfl⟩)) | with_reducible exact near_call (HNL.out _ (Ext.of_near ⟨⟨_, _⟩, rfl⟩))))))
              refine wpQuiet_nil ?_
              intro w1 hw1
              have hy := Ext.of_near hw1
              clear hw1
              go_wp2
              go_ret
              exact ⟨ret_bool (by simp), X3.out.trans hy⟩
          · have hb9 : (oth != x.st.site) = true := by simpa using hoo
            clear hoo
            cases bb
            · go_wp2_with (first | (refine wpList_load_blk 26 (.tmp 9) rfl rfl D3 rfl _ Tryd.underlying26 rfl (by kernel_rfl) ?_) | (refine wpList_load_blk 26 (.tmp 9) rfl rfl (D3.alloc _) rfl _ Tryd.underlying26 rfl (by kernel_rfl) ?_) | (refine wpList_load_blk 26 (.tmp 9) rfl rfl ((D3.alloc _).alloc _) rfl _ Tryd.underlying26 rfl (by kernel_rfl) ?_))
              refine (blocks_at HBM.out (by omega) A2 c2 _ S3).mono ?_
              rintro e w14 ⟨rfl, xx⟩
              have X3 := Lib.hid (X3.out.trans xx)
              have B3 := B3.ext xx
              have D3 := D3.ext xx
              have S3 := S3.ext xx
              have T3 := T3.ext xx
              clear xx
              have cB3 := B3.cell
              have lB3 := B3.lt
              go_wp2_with fail
              have cD3 := D3.cell
              have lD3 := D3.lt
              have HNS := Lib.hid (fun (w' : World) (hx : Ext _ w') => sanity_any w' (HL.out.ext (X3.out.trans hx)))
              have HNM := Lib.hid (fun (w' : World) (hx : Ext _ w') => owner_at (now := tk) (p := p) HO.out (by omega) A2 c2 w' (S3.ext hx))
              have HNL := Lib.hid (fun (w' : World) (hx : Ext _ w') => owner_at (now := tk) (p := p) HO2.out (by omega) A c w' (T3.ext hx))
              refine wp_region_near (by assumption) (by kernel_rfl) ?_
              repeat (go_big_quiet_step ((first | (go_at_call 10; exact near_call (HNS.out _ (Ext.of_near ⟨⟨_, _⟩, rfl⟩))) | (go_at_call 20; first | with_reducible exact near_call (HNM.out _ (Ext.of_near ⟨⟨_, _⟩, rfl⟩)) | with_reducible exact near_call (HNL.out _ (Ext.of_near ⟨⟨_, _⟩, rfl⟩))))))
              refine wpQuiet_nil ?_
              intro w1 hw1
              have hy := Ext.of_near hw1
              clear hw1
              go_wp2
              go_ret
              exact ⟨ret_bool (by simp), X3.out.trans hy⟩
            · go_wp2_with (first | (refine wpList_load_blk 26 (.tmp 9) rfl rfl D3 rfl _ Tryd.underlying26 rfl (by kernel_rfl) ?_) | (refine wpList_load_blk 26 (.tmp 9) rfl rfl (D3.alloc _) rfl _ Tryd.underlying26 rfl (by kernel_rfl) ?_) | (refine wpList_load_blk 26 (.tmp 9) rfl rfl ((D3.alloc _).alloc _) rfl _ Tryd.underlying26 rfl (by kernel_rfl) ?_))
              refine (blocks_at HBM.out (by omega) A2 c2 _ S3).mono ?_
              rintro e w15 ⟨rfl, xx⟩
              have X3 := Lib.hid (X3.out.trans xx)
              have B3 := B3.ext xx
              have D3 := D3.ext xx
              have S3 := S3.ext xx
              have T3 := T3.ext xx
              clear xx
              have cB3 := B3.cell
              have lB3 := B3.lt
              go_wp2_with (first | (refine wpList_load_blk 26 (.tmp 9) rfl rfl D3 rfl _ Tryd.underlying26 rfl (by kernel_rfl) ?_) | (refine wpList_load_blk 26 (.tmp 9) rfl rfl (D3.alloc _) rfl _ Tryd.underlying26 rfl (by kernel_rfl) ?_) | (refine wpList_load_blk 26 (.tmp 9) rfl rfl ((D3.alloc _).alloc _) rfl _ Tryd.underlying26 rfl (by kernel_rfl) ?_))
              refine (blocks_at HBL.out (by omega) A c _ T3).mono ?_
              rintro e w16 ⟨rfl, xx⟩
              have X3 := Lib.hid (X3.out.trans xx)
              have B3 := B3.ext xx
              have D3 := D3.ext xx
              have S3 := S3.ext xx
              have T3 := T3.ext xx
              clear xx
              have cB3 := B3.cell
              have lB3 := B3.lt
              go_wp2_with fail
              have cD3 := D3.cell
              have lD3 := D3.lt
              have HNS := Lib.hid (fun (w' : World) (hx : Ext _ w') => sanity_any w' (HL.out.ext (X3.out.trans hx)))
              have HNM := Lib.hid (fun (w' : World) (hx : Ext _ w') => owner_at (now := tk) (p := p) HO.out (by omega) A2 c2 w' (S3.ext hx))
              have HNL := Lib.hid (fun (w' : World) (hx : Ext _ w') => owner_at (now := tk) (p := p) HO2.out (by omega) A c w' (T3.ext hx))
              refine wp_region_near (by assumption) (by kernel_rfl) ?_
              repeat (go_big_quiet_step ((first | (go_at_call 10; exact near_call (HNS.out _ (Ext.of_near ⟨⟨_, _⟩, rfl⟩))) | (go_at_call 20; first | with_reducible exact near_call (HNM.out _ (Ext.of_near ⟨⟨_, _⟩, rfl⟩)) | with_reducible exact near_call (HNL.out _ (Ext.of_near ⟨⟨_, _⟩, rfl⟩))))))
              refine wpQuiet_nil ?_
              intro w1 hw1
              have hy := Ext.of_near hw1
              clear hw1
              go_wp2
              go_ret
              exact ⟨ret_bool (by simp), X3.out.trans hy⟩
    · have hne : ((takeR ls x).2 == 0) = false := by simpa using he
      clear he
      generalize (takeR ls x).2 = er at hne ⊢
      go_wp2_with fail
      refine (sanity_any _ (HL.out.ext X2.out)).mono ?_
      rintro e w3 ⟨rfl, x3⟩
      go_wp2
      go_ret
      exact ⟨rfl, X2.out.trans x3⟩
end Go.Proofs.YtjceebpafnnffaaDoor

namespace Go.Proofs.YtjceebpafnnffaaDoor
open Go Go.RowKit Go.ChangeShapes Go.WideShapes Go.ChangeAt

theorem u8b {n : Int} (h : (Lit.int .u8 n).wf = true) : 0 ≤ n ∧ n ≤ 255 := by simpa [Lit.wf, IntKind.min, IntKind.max, IntKind.signed, IntKind.bits] using h
set_option maxHeartbeats 1600000 in
set_option maxRecDepth 100000 in
theorem lockBlocksOthers_lifted (os : Os) (started : os.Started) (H : Type) (enc : TypeId × Value → H) :
    ReturnsInHanded {} Tryd.checked os 6 .any (fun w args => (Rows.lockBlocksOthersSpec.pre enc Tryd.prog Tryd.f6 Rows.lockBlocksOthersRow.domain false w args ∧ laidMetH Tryd.prog laidL w) ∧ sizedMet enc Tryd.prog Tryd.f6 (OpenSpec.ofChange Rows.lockBlocksOthersSpec) false w args) (Rows.lockBlocksOthersSpec.post enc Tryd.prog Tryd.f6 false true false false) := by
  refine returnsInHanded_of_change_and (C := Tryd.checked) (X := fun w _ => laidMetH Tryd.prog laidL w) (fun _ _ _ hh h => h.of_heap hh) own_ started (by kernel_rfl) Tryd.func6
    (ChangeSpec.witness_shaped (enc := enc) (C := Tryd.checked) (os := os) (X := fun w _ => laidMetH Tryd.prog laidL w) false (World.laidAll Tryd.prog os laidL) #[.slice none 0 0, .agg #[.int .i64 0, .int .i64 0, .int .i64 0, .int .i64 0, .int .i64 0, .int .i64 0, .int .i64 0, .int .i64 0, .int .i64 0, .int .i64 0, .int .i64 0, .int .i64 0, .int .i64 0, .int .i64 0, .int .i64 0, .int .i64 0, .int .i64 0], .int .u8 0, .int .u8 0, .agg #[.int .i64 0, .int .i64 0, .int .i64 0]] 8 (World.laidAll_os _ _ _) (World.shaped_of_ZipB (by kernel_rfl) (by kernel_rfl)) (by kernel_rfl) (by kernel_rfl) (by kernel_rfl)
      (by rw [MakeChecks.laidMetH_plain _ _ _ (by kernel_rfl)]; exact laidMet_laidAll _ (by kernel_rfl) (by kernel_rfl))) ?_
  intro W base args ds gs before hval0 hW hcnd _ hLd _
  have hval : ∀ (j : Nat) t v, Tryd.f6.params[j]? = some t → args[j]? = some v → Value.okWide Tryd.prog W .any base t v := hval0
  have hLd := laid_of hLd
  have hW' := hW
  obtain ⟨p, q, hA0, hV, rfl, hfz, hnd⟩ := hW
  have hA : DataW.TrodAll enc Tryd.prog W 0 (fun _ => true) true Tryd.f6.params.toList args.toList ds p := hA0
  have hAll := hA
  rw [Tryd.params6] at hA hval
  obtain ⟨v0, vs0, d0, ds0, p0, q0, ha, rfl, rfl, h0, r0⟩ := trodAll_cons hA
  obtain ⟨v1, vs1, d1, ds1, p1, q1, rfl, rfl, rfl, h1, r1⟩ := trodAll_cons r0
  obtain ⟨v2, vs2, d2, ds2, p2, q2, rfl, rfl, rfl, h2, r2⟩ := trodAll_cons r1
  obtain ⟨v3, vs3, d3, ds3, p3, q3, rfl, rfl, rfl, h3, r3⟩ := trodAll_cons r2
  obtain ⟨v4, vs4, d4, ds4, p4, q4, rfl, rfl, rfl, h4, r4⟩ := trodAll_cons r3
  obtain ⟨rfl, rfl, rfl⟩ := trodAll_nil r4
  obtain ⟨rfl, rfl⟩ := trodVars_none hV
  have hargs : args = #[v0, v1, v2, v3, v4] := by apply Array.ext'; exact ha
  subst hargs
  obtain ⟨A, c, l, rfl, hs⟩ := read_locks (hval 0 _ _ rfl rfl) h0
  obtain ⟨x, rfl, hfit⟩ := read_Ed (hval 1 _ _ rfl rfl) h1
  obtain ⟨later, rfl, rfl, rfl, hwa⟩ := open_int Tryd.underlying5 (hval 2 _ _ rfl rfl) h2
  obtain ⟨site, rfl, rfl, rfl, hwb⟩ := open_int Tryd.underlying5 (hval 3 _ _ rfl rfl) h3
  obtain ⟨p, rfl⟩ := read_Pt (hval 4 _ _ rfl rfl) h4
  refine (LockBlocksOthers_any A c l x later site p W hs hfit.1 (u8b hwa) (u8b hwb) hLd).mono fun e W' ⟨he, hx⟩ => ?_
  subst he
  have hlt : ∀ x, x ∈ (p0 ++ (p1 ++ ([] ++ ([] ++ (p4 ++ []))))) → x.block < W.heap.size := fun x hx2 => hW'.lt x (by simpa using hx2)
  exact ⟨_, rfl, _, _, _, [], _, [], hW', trodAll_mk1 (shut_bool Tryd.underlying4 true), args_below laidOut_ _ _ _ _ W' (by rw [Tryd.params6]; intro t ht; simp at ht; rcases ht with rfl | rfl | rfl | rfl <;> exact ⟨by kernel_rfl, of_decide_eq_true (by kernel_rfl)⟩) hAll hx.below hlt, rfl, hx.below.frame _, fun h => by cases h⟩

theorem lockBlocksOthers_row : Rows.LockBlocksOthersSaid :=
  OpenClaim.holds_of_wide 6 Tryd.f6 rfl rfl rfl rfl rfl rfl rfl ⟨rfl, rfl, rfl, rfl, rfl⟩ rfl rfl rfl rfl rfl (by kernel_rfl) Tryd.func6 (by kernel_rfl)
    (of_decide_eq_true (by kernel_rfl)) (by unfold Func.isWrapper; rw [if_neg (of_decide_eq_false (by kernel_rfl))]; exact ⟨rfl, rfl⟩)
    (fun os started H enc _ => lockBlocksOthers_lifted os started H enc)

theorem lockBlocksOthers_holds : Rows.LockBlocksOthersCardSaid :=
  Claim7.holds_tied_plain_at .later [] [.data, .data] true Rows.lockBlocksOthersCard.stood.harness false
    lockBlocksOthers_row (fun _ h => by cases h) (by kernel_rfl) (fun _ h => by cases h) lockBlocksOthers_row_tie rfl ⟨rfl, rfl⟩ (by kernel_rfl) rfl
    (fun f fn hf hfn => by
      obtain rfl : f = 6 := Option.some.inj ((show Tryd.prog.funcNamed "voxel/voxellaw28.LockBlocksOthers" = some 6 by kernel_rfl).symm.trans hf) |>.symm
      obtain rfl : fn = Tryd.f6 := (Option.some.inj (Tryd.func6.symm.trans hfn)).symm
      exact ⟨by kernel_rfl, fun j t ht => by
        rw [Tryd.params6] at ht
        have hm : t ∈ [22, 30, 5, 5, 26] := by simpa using Array.mem_of_getElem? ht
        have hall : ([22, 30, 5, 5, 26].all fun u => !Tryd.prog.wantsStandIn u) = true := by kernel_rfl
        exact (show Tryd.prog.wantsStandIn t = false by simpa using List.all_eq_true.1 hall t hm)⟩)
    (by kernel_rfl)
end Go.Proofs.YtjceebpafnnffaaDoor
