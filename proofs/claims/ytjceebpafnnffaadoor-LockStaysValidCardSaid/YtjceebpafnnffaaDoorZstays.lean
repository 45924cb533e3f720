/- LockFrees, walked. · Contract of the laws' play; LockStaysValid, walked. · LockStaysValid, walked. · LockStaysValid: for every input the law returns true, and each argument reads as it did. No condition. -/
import Derived.Test.YtjceebpafnnffaaDoorTie
import Derived.Test.YtjceebpafnnffaaDoorCards
import Derived.LaidLaws
import Derived.SevenTiedAt
import Derived.Test.YtjceebpafnnffaaDoorZa8
namespace Go.Proofs.YtjceebpafnnffaaDoor
open Go Go.RowKit

theorem few_VT {ls : List Lk} (h : (decide (ls.length ≤ 60) && validR ls) = true) : VT ls ∧ ls.length ≤ 60 := by
  rw [Bool.and_eq_true, decide_eq_true_eq, validR_VT] at h
  exact ⟨h.2, h.1⟩
theorem takeP_at {ls : List Lk} {x : Ed} (hv : VT ls) (hw : fits x) (hb : ls.length ≤ 1000000) (A : Option Addr) (c : Nat) (w : World) (hs : Sv w w.heap.size 9 A c (rowsL ls)) (hL : Laid w) :
    Calls Tryd.prog 11 #[.slice A ls.length c, .agg #[.int .i64 x.st.tick, .int .i64 x.st.clock, .int .i64 x.st.site, .int .i64 x.st.seq, .int .i64 x.kind, .int .i64 x.box.lo.x, .int .i64 x.box.lo.y, .int .i64 x.box.lo.z, .int .i64 x.box.hi.x, .int .i64 x.box.hi.y, .int .i64 x.box.hi.z, .int .i64 x.at_.x, .int .i64 x.at_.y, .int .i64 x.at_.z, .int .i64 x.turn, .int .i64 x.cell, .int .i64 x.size]] w (RetTS (takeR ls x).1 (takeR ls x).2 w) := by
  have h1 := LTake_any A c ls x w hs hb hL.rows hv.sorted
  rw [take_eq hv hw] at h1
  exact h1.mono fun _ _ h => h.read
theorem freeP_at {ls : List Lk} {x : Ed} (hv : VT ls) (hw : fits x) (hb : ls.length ≤ 1000000) (A : Option Addr) (c : Nat) (w : World) (hs : Sv w w.heap.size 9 A c (rowsL ls)) (hL : Laid w) :
    Calls Tryd.prog 13 #[.slice A ls.length c, .agg #[.int .i64 x.st.tick, .int .i64 x.st.clock, .int .i64 x.st.site, .int .i64 x.st.seq, .int .i64 x.kind, .int .i64 x.box.lo.x, .int .i64 x.box.lo.y, .int .i64 x.box.lo.z, .int .i64 x.box.hi.x, .int .i64 x.box.hi.y, .int .i64 x.box.hi.z, .int .i64 x.at_.x, .int .i64 x.at_.y, .int .i64 x.at_.z, .int .i64 x.turn, .int .i64 x.cell, .int .i64 x.size]] w (RetTS (freeR ls x).1 (freeR ls x).2 w) := by
  have h1 := LFree_any A c ls x w hs hb hL.rows hv.sorted
  rw [free_eq hv hw] at h1
  exact h1.mono fun _ _ h => h.read
theorem fits_undo (x : Ed) : fits (undoE x) := ⟨by show (0:Int) ≤ _; decide, by show (0:Int) ≤ _; decide, by show (0:Int) ≤ _; decide⟩
set_option maxRecDepth 100000 in
set_option maxHeartbeats 8000000 in
theorem LockFrees_any (A : Option Addr) (c : Nat) (ls : List Lk) (x : Ed) (w : World) (hs : Sv w w.heap.size 9 A c (rowsL ls)) (hw : fits x) (hL : Laid w) :
    Calls Tryd.prog 7 #[.slice A ls.length c, .agg #[.int .i64 x.st.tick, .int .i64 x.st.clock, .int .i64 x.st.site, .int .i64 x.st.seq, .int .i64 x.kind, .int .i64 x.box.lo.x, .int .i64 x.box.lo.y, .int .i64 x.box.lo.z, .int .i64 x.box.hi.x, .int .i64 x.box.hi.y, .int .i64 x.box.hi.z, .int .i64 x.at_.x, .int .i64 x.at_.y, .int .i64 x.at_.z, .int .i64 x.turn, .int .i64 x.cell, .int .i64 x.size]] w fun e w' => e = .returned (.bool true) ∧ Ext w w' := by
  have HS := Lib.hid hs
  have HL := Lib.hid hL
  have HW := Lib.hid hw
  have HFW := Lib.hid (fun (w' : World) (hx : Ext w w') => few_any A c ls w' (HS.out.ext hx))
  clear hs hL hw
  cases hf : decide (ls.length ≤ 60) && validR ls
  · rw [hf] at HFW
    clear hf
    go_enter Tryd.func7, Tryd.ntmps7
    go_upto_region 1 with fail
    obtain ⟨W0, hW⟩ : ∃ W, W = w.alloc (.cells #[.int .i64 x.st.tick, .int .i64 x.st.clock, .int .i64 x.st.site, .int .i64 x.st.seq, .int .i64 x.kind, .int .i64 x.box.lo.x, .int .i64 x.box.lo.y, .int .i64 x.box.lo.z, .int .i64 x.box.hi.x, .int .i64 x.box.hi.y, .int .i64 x.box.hi.z, .int .i64 x.at_.x, .int .i64 x.at_.y, .int .i64 x.at_.z, .int .i64 x.turn, .int .i64 x.cell, .int .i64 x.size] 30) := ⟨_, rfl⟩
    have hx0 : Ext w W0 := by rw [hW]; exact (Ext.refl w).alloc _
    have B0 : Arr W0 w.heap.size 30 [.int .i64 x.st.tick, .int .i64 x.st.clock, .int .i64 x.st.site, .int .i64 x.st.seq, .int .i64 x.kind, .int .i64 x.box.lo.x, .int .i64 x.box.lo.y, .int .i64 x.box.lo.z, .int .i64 x.box.hi.x, .int .i64 x.box.hi.y, .int .i64 x.box.hi.z, .int .i64 x.at_.x, .int .i64 x.at_.y, .int .i64 x.at_.z, .int .i64 x.turn, .int .i64 x.cell, .int .i64 x.size] := by rw [hW]; exact Arr.new w _ _
    rw [← hW]
    clear hW
    have cB0 := B0.cell
    have fB0 := B0.frozen
    have lB0 := B0.lt
    go_wp2_with fail
    refine (HFW.out _ hx0).mono ?_
    rintro e w1 ⟨rfl, x1⟩
    go_wp2_with fail
    refine (sanity_any _ (HL.out.ext (hx0.trans x1))).mono ?_
    rintro e w2 ⟨rfl, x2⟩
    go_wp2
    go_ret
    exact ⟨rfl, (hx0.trans x1).trans x2⟩
  · rw [hf] at HFW
    obtain ⟨hv, hb⟩ := few_VT hf
    have HV := Lib.hid hv
    clear hf hv
    by_cases hsq : 1000 ≤ x.st.seq
    · have hd : decide ((1000 : Int) ≤ x.st.seq) = true := decide_eq_true hsq
      clear hsq
      go_enter Tryd.func7, Tryd.ntmps7
      go_upto_region 1 with fail
      obtain ⟨W0, hW⟩ : ∃ W, W = w.alloc (.cells #[.int .i64 x.st.tick, .int .i64 x.st.clock, .int .i64 x.st.site, .int .i64 x.st.seq, .int .i64 x.kind, .int .i64 x.box.lo.x, .int .i64 x.box.lo.y, .int .i64 x.box.lo.z, .int .i64 x.box.hi.x, .int .i64 x.box.hi.y, .int .i64 x.box.hi.z, .int .i64 x.at_.x, .int .i64 x.at_.y, .int .i64 x.at_.z, .int .i64 x.turn, .int .i64 x.cell, .int .i64 x.size] 30) := ⟨_, rfl⟩
      have hx0 : Ext w W0 := by rw [hW]; exact (Ext.refl w).alloc _
      have B0 : Arr W0 w.heap.size 30 [.int .i64 x.st.tick, .int .i64 x.st.clock, .int .i64 x.st.site, .int .i64 x.st.seq, .int .i64 x.kind, .int .i64 x.box.lo.x, .int .i64 x.box.lo.y, .int .i64 x.box.lo.z, .int .i64 x.box.hi.x, .int .i64 x.box.hi.y, .int .i64 x.box.hi.z, .int .i64 x.at_.x, .int .i64 x.at_.y, .int .i64 x.at_.z, .int .i64 x.turn, .int .i64 x.cell, .int .i64 x.size] := by rw [hW]; exact Arr.new w _ _
      rw [← hW]
      clear hW
      have cB0 := B0.cell
      have fB0 := B0.frozen
      have lB0 := B0.lt
      go_wp2_with fail
      refine (HFW.out _ hx0).mono ?_
      rintro e w1 ⟨rfl, x1⟩
      have B1 := Arr.ext B0 x1
      have cB1 := B1.cell
      go_wp2_with fail
      refine (sanity_any _ (HL.out.ext (hx0.trans x1))).mono ?_
      rintro e w2 ⟨rfl, x2⟩
      go_wp2
      go_ret
      exact ⟨rfl, (hx0.trans x1).trans x2⟩
    · have hd : decide ((1000 : Int) ≤ x.st.seq) = false := decide_eq_false hsq
      have HSQ := Lib.hid (show x.st.seq < 1000 by omega)
      clear hsq
      go_enter Tryd.func7, Tryd.ntmps7
      go_upto_region 1 with fail
      obtain ⟨W0, hW⟩ : ∃ W, W = w.alloc (.cells #[.int .i64 x.st.tick, .int .i64 x.st.clock, .int .i64 x.st.site, .int .i64 x.st.seq, .int .i64 x.kind, .int .i64 x.box.lo.x, .int .i64 x.box.lo.y, .int .i64 x.box.lo.z, .int .i64 x.box.hi.x, .int .i64 x.box.hi.y, .int .i64 x.box.hi.z, .int .i64 x.at_.x, .int .i64 x.at_.y, .int .i64 x.at_.z, .int .i64 x.turn, .int .i64 x.cell, .int .i64 x.size] 30) := ⟨_, rfl⟩
      have hx0 : Ext w W0 := by rw [hW]; exact (Ext.refl w).alloc _
      have B0 : Arr W0 w.heap.size 30 [.int .i64 x.st.tick, .int .i64 x.st.clock, .int .i64 x.st.site, .int .i64 x.st.seq, .int .i64 x.kind, .int .i64 x.box.lo.x, .int .i64 x.box.lo.y, .int .i64 x.box.lo.z, .int .i64 x.box.hi.x, .int .i64 x.box.hi.y, .int .i64 x.box.hi.z, .int .i64 x.at_.x, .int .i64 x.at_.y, .int .i64 x.at_.z, .int .i64 x.turn, .int .i64 x.cell, .int .i64 x.size] := by rw [hW]; exact Arr.new w _ _
      rw [← hW]
      clear hW
      have cB0 := B0.cell
      have fB0 := B0.frozen
      have lB0 := B0.lt
      go_wp2_with fail
      refine (HFW.out _ hx0).mono ?_
      rintro e w1 ⟨rfl, x1⟩
      have B1 := Arr.ext B0 x1
      have cB1 := B1.cell
      have X1 := Lib.hid (hx0.trans x1)
      clear x1 hx0 cB0 B0 fB0 lB0
      go_wp2_with (first | (refine wpList_load_blk 30 (.tmp 3) rfl rfl B1 rfl _ Tryd.underlying30 rfl (by kernel_rfl) ?_) | (refine wpList_load_blk 30 (.tmp 3) rfl rfl (B1.alloc _) rfl _ Tryd.underlying30 rfl (by kernel_rfl) ?_) | (refine wpList_load_blk 30 (.tmp 3) rfl rfl ((B1.alloc _).alloc _) rfl _ Tryd.underlying30 rfl (by kernel_rfl) ?_))
      refine (takeP_at HV.out HW.out (by omega) A c w1 (HS.out.ext X1.out) (HL.out.ext X1.out)).mono ?_
      rintro e w2 ⟨A2, c2, rfl, s2, x2⟩
      have X2 := Lib.hid (X1.out.trans x2)
      have B2 := Arr.ext B1 x2
      have cB2 := B2.cell
      clear x2 cB1 B1
      by_cases he : (takeR ls x).2 = 0
      · have hub := undo_facts he HSQ.out
        have htv := take_VT (x := x) HV.out
        have htl := take_len1 ls x
        have HUB := Lib.hid hub
        have HTV := Lib.hid htv
        have hg := (lock_good (take_ok he).1).1
        have hsq1 : 1 ≤ x.st.seq := hg.seq.1
        have hsq2 := HSQ.out
        have HFE := Lib.hid (fun w' => show Calls Tryd.prog 28 #[.int .i64 x.st.tick, .int .i64 x.st.site, .int .i64 (x.st.seq + 1), .int .i64 x.st.seq] w' fun e w'' => e = .returned (.agg #[.int .i64 (undoE x).st.tick, .int .i64 (undoE x).st.clock, .int .i64 (undoE x).st.site, .int .i64 (undoE x).st.seq, .int .i64 (undoE x).kind, .int .i64 (undoE x).box.lo.x, .int .i64 (undoE x).box.lo.y, .int .i64 (undoE x).box.lo.z, .int .i64 (undoE x).box.hi.x, .int .i64 (undoE x).box.hi.y, .int .i64 (undoE x).box.hi.z, .int .i64 (undoE x).at_.x, .int .i64 (undoE x).at_.y, .int .i64 (undoE x).at_.z, .int .i64 (undoE x).turn, .int .i64 (undoE x).cell, .int .i64 (undoE x).size]) ∧ Ext w' w'' from lawfree_any x.st.tick x.st.site (x.st.seq + 1) x.st.seq w')
        clear hub htv hg
        rw [he]
        clear he
        go_wp2_with fail
        refine (HFE.out _).mono ?_
        rintro e w3 ⟨rfl, x3⟩
        have X3 := Lib.hid (X2.out.trans x3)
        have S3 := Lib.hid (s2.ext x3)
        have B3 := Arr.ext B2 x3
        have D4 := Arr.new w3 30 [.int .i64 zeroEd.st.tick, .int .i64 zeroEd.st.clock, .int .i64 zeroEd.st.site, .int .i64 zeroEd.st.seq, .int .i64 zeroEd.kind, .int .i64 zeroEd.box.lo.x, .int .i64 zeroEd.box.lo.y, .int .i64 zeroEd.box.lo.z, .int .i64 zeroEd.box.hi.x, .int .i64 zeroEd.box.hi.y, .int .i64 zeroEd.box.hi.z, .int .i64 zeroEd.at_.x, .int .i64 zeroEd.at_.y, .int .i64 zeroEd.at_.z, .int .i64 zeroEd.turn, .int .i64 zeroEd.cell, .int .i64 zeroEd.size]
        have D5 := D4.setRow [.int .i64 (undoE x).st.tick, .int .i64 (undoE x).st.clock, .int .i64 (undoE x).st.site, .int .i64 (undoE x).st.seq, .int .i64 (undoE x).kind, .int .i64 (undoE x).box.lo.x, .int .i64 (undoE x).box.lo.y, .int .i64 (undoE x).box.lo.z, .int .i64 (undoE x).box.hi.x, .int .i64 (undoE x).box.hi.y, .int .i64 (undoE x).box.hi.z, .int .i64 (undoE x).at_.x, .int .i64 (undoE x).at_.y, .int .i64 (undoE x).at_.z, .int .i64 (undoE x).turn, .int .i64 (undoE x).cell, .int .i64 (undoE x).size]
        have xa : Ext w3 ((w3.alloc (.cells [.int .i64 zeroEd.st.tick, .int .i64 zeroEd.st.clock, .int .i64 zeroEd.st.site, .int .i64 zeroEd.st.seq, .int .i64 zeroEd.kind, .int .i64 zeroEd.box.lo.x, .int .i64 zeroEd.box.lo.y, .int .i64 zeroEd.box.lo.z, .int .i64 zeroEd.box.hi.x, .int .i64 zeroEd.box.hi.y, .int .i64 zeroEd.box.hi.z, .int .i64 zeroEd.at_.x, .int .i64 zeroEd.at_.y, .int .i64 zeroEd.at_.z, .int .i64 zeroEd.turn, .int .i64 zeroEd.cell, .int .i64 zeroEd.size].toArray 30)).setRow w3.heap.size [.int .i64 (undoE x).st.tick, .int .i64 (undoE x).st.clock, .int .i64 (undoE x).st.site, .int .i64 (undoE x).st.seq, .int .i64 (undoE x).kind, .int .i64 (undoE x).box.lo.x, .int .i64 (undoE x).box.lo.y, .int .i64 (undoE x).box.lo.z, .int .i64 (undoE x).box.hi.x, .int .i64 (undoE x).box.hi.y, .int .i64 (undoE x).box.hi.z, .int .i64 (undoE x).at_.x, .int .i64 (undoE x).at_.y, .int .i64 (undoE x).at_.z, .int .i64 (undoE x).turn, .int .i64 (undoE x).cell, .int .i64 (undoE x).size].toArray) := ((Ext.refl w3).alloc _).setRow (Nat.le_refl _) _
        have X4 := Lib.hid (X3.out.trans xa)
        have S4 := Lib.hid (S3.out.ext xa)
        have B4 := Arr.ext B3 xa
        clear x3 s2 B2 B3 cB2 xa hsq1 hsq2
        generalize hml : (takeR ls x).1 = ml at S3 S4 HUB HTV htl
        have HML := Lib.hid hml
        clear hml
        go_wp2_with (first | (refine wpList_store_blk 30 (.tmp 7) (.tmp 46) rfl rfl D4 [.int .i64 (undoE x).st.tick, .int .i64 (undoE x).st.clock, .int .i64 (undoE x).st.site, .int .i64 (undoE x).st.seq, .int .i64 (undoE x).kind, .int .i64 (undoE x).box.lo.x, .int .i64 (undoE x).box.lo.y, .int .i64 (undoE x).box.lo.z, .int .i64 (undoE x).box.hi.x, .int .i64 (undoE x).box.hi.y, .int .i64 (undoE x).box.hi.z, .int .i64 (undoE x).at_.x, .int .i64 (undoE x).at_.y, .int .i64 (undoE x).at_.z, .int .i64 (undoE x).turn, .int .i64 (undoE x).cell, .int .i64 (undoE x).size] rfl rfl (by kernel_rfl) rfl rfl ?_) | (refine wpList_load_blk 30 (.tmp 7) rfl rfl D5 rfl _ Tryd.underlying30 rfl (by kernel_rfl) ?_) | (refine wpList_load_blk 30 (.tmp 7) rfl rfl (D5.alloc _) rfl _ Tryd.underlying30 rfl (by kernel_rfl) ?_) | (refine wpList_load_blk 30 (.tmp 7) rfl rfl ((D5.alloc _).alloc _) rfl _ Tryd.underlying30 rfl (by kernel_rfl) ?_))
        have h5 := freeP_at (x := undoE x) HTV.out (fits_undo x) (by omega) A2 c2 _ S4.out (HL.out.ext X4.out)
        rw [HUB.out.1] at h5
        refine h5.mono ?_
        rintro e w5 ⟨A5, c5, rfl, s5, x5⟩
        have X5 := Lib.hid (X4.out.trans x5)
        have S5 := Lib.hid (S4.out.ext x5)
        have D6 := Arr.ext D5 x5
        have B5 := Arr.ext B4 x5
        clear x5 h5 D5 D4 B4
        have hfl := filter_len (livesL x.st.tick) ls
        have HLV := Lib.hid (HV.out.filter (livesL x.st.tick))
        have HEX := Lib.hid (fun (w' : World) (hx : Ext w w') => (Expire_any A c ls w' (HS.out.ext hx) (by omega) x.st.tick).mono fun _ _ h => RetL.read h)
        generalize ls.filter (livesL x.st.tick) = lv at s5 HUB HLV HEX hfl ⊢
        go_wp2_with (first | (refine wpList_load_blk 30 (.tmp 7) rfl rfl D6 rfl _ Tryd.underlying30 rfl (by kernel_rfl) ?_) | (refine wpList_load_blk 30 (.tmp 7) rfl rfl (D6.alloc _) rfl _ Tryd.underlying30 rfl (by kernel_rfl) ?_) | (refine wpList_load_blk 30 (.tmp 7) rfl rfl ((D6.alloc _).alloc _) rfl _ Tryd.underlying30 rfl (by kernel_rfl) ?_))
        have h6 := freeP_at (x := undoE x) HLV.out (fits_undo x) (by omega) A5 c5 _ s5 (HL.out.ext X5.out)
        rw [HUB.out.2.1] at h6
        refine h6.mono ?_
        rintro e w6 ⟨A6, c6, rfl, _, x6⟩
        have X6 := Lib.hid (X5.out.trans x6)
        have S6 := Lib.hid (S5.out.ext x6)
        have s6 := s5.ext x6
        have B6 := Arr.ext B5 x6
        clear x6 h6 s5 D6 B5
        generalize (freeR lv (undoE x)).1 = m2
        go_wp2_with (first | (refine wpList_load_blk 30 (.tmp 3) rfl rfl B6 rfl _ Tryd.underlying30 rfl (by kernel_rfl) ?_) | (refine wpList_load_blk 30 (.tmp 3) rfl rfl (B6.alloc _) rfl _ Tryd.underlying30 rfl (by kernel_rfl) ?_) | (refine wpList_load_blk 30 (.tmp 3) rfl rfl ((B6.alloc _).alloc _) rfl _ Tryd.underlying30 rfl (by kernel_rfl) ?_))
        have h7 := takeP_at (x := x) HTV.out HW.out (by omega) A2 c2 _ S6.out (HL.out.ext X6.out)
        rw [HUB.out.2.2] at h7
        refine h7.mono ?_
        rintro e w7 ⟨A7, c7, rfl, _, x7⟩
        have X7 := Lib.hid (X6.out.trans x7)
        have s7 := s6.ext x7
        have B7 := Arr.ext B6 x7
        clear x7 h7 s6 B6
        generalize (takeR ml x).1 = m3
        go_wp2_with fail
        refine (sanity_any _ (HL.out.ext X7.out)).mono ?_
        rintro e w8 ⟨rfl, x8⟩
        have X8 := Lib.hid (X7.out.trans x8)
        have s8 := s7.ext x8
        have B8 := Arr.ext B7 x8
        have cB8 := B8.cell
        clear x8 s7 B7 B8
        go_wp2_with fail
        refine (HEX.out _ X8.out).mono ?_
        rintro e w9 ⟨A9, c9, rfl, s9, x9⟩
        have X9 := Lib.hid (X8.out.trans x9)
        have s8 := s8.ext x9
        clear cB8 x9
        go_wp2_with fail
        refine (refSame_any A5 A9 c5 c9 lv lv w9 s8 s9).mono ?_
        rintro e w10 ⟨rfl, x10⟩
        rw [decide_eq_true rfl]
        go_wp2
        go_ret
        exact ⟨rfl, X9.out.trans x10⟩
      · have hne : ((takeR ls x).2 == 0) = false := by simpa using he
        clear he
        generalize (takeR ls x).2 = er at hne ⊢
        go_wp2_with fail
        refine (sanity_any _ (HL.out.ext X2.out)).mono ?_
        rintro e w3 ⟨rfl, x3⟩
        go_wp2
        go_ret
        exact ⟨rfl, X2.out.trans x3⟩
end Go.Proofs.YtjceebpafnnffaaDoor

namespace Go.Proofs.YtjceebpafnnffaaDoor
open Go Go.RowKit

theorem rowsE_length (es : List Ed) : (rowsE es).length = es.length := by simp [rowsE]
theorem rowsE_rwk (es : List Ed) : Rwk 17 (rowsE es) := fun x hx => by
  obtain ⟨y, _, rfl⟩ := List.mem_map.1 hx
  refine ⟨rfl, fun u hu => ?_⟩
  simp only [Ed.cells, List.mem_cons, List.not_mem_nil, or_false] at hu
  rcases hu with rfl | rfl | rfl | rfl | rfl | rfl | rfl | rfl | rfl | rfl | rfl | rfl | rfl | rfl | rfl | rfl | rfl <;> rfl
theorem ed_row {A : Option Addr} {c : Nat} {es : List Ed} {w : World} (hs : Sv w w.heap.size 17 A c (rowsE es)) {j : Nat} {x : Ed} (hx : es[j]? = some x) : ∃ b off, A = some ⟨b, off, none⟩ ∧ b < w.heap.size ∧ w.rangeAt b (off + j * 17) x.cells :=
  hs.row (by simp [rowsE, hx])
def stepR (ls : List Lk) (x : Ed) : List Lk :=
  if x.kind = 7 then (if (takeR ls x).2 = 0 then (takeR ls x).1 else ls) else if x.kind = 8 then (if (freeR ls x).2 = 0 then (freeR ls x).1 else ls) else ls
theorem step_VT {ls : List Lk} {x : Ed} (hv : VT ls) : VT (stepR ls x) := by
  unfold stepR
  split
  · split
    · exact take_VT hv
    · exact hv
  · split
    · split
      · exact free_VT hv
      · exact hv
    · exact hv
theorem step_len (ls : List Lk) (x : Ed) : (stepR ls x).length ≤ ls.length + 1 := by
  unfold stepR
  split
  · split
    · exact take_len1 ls x
    · omega
  · split
    · split
      · have := free_len1 ls x; omega
      · omega
    · omega
def playR (ls : List Lk) (es : List Ed) : List Lk := es.foldl stepR ls
theorem play_step {ls : List Lk} {es : List Ed} {j : Nat} {x : Ed} (hx : es[j]? = some x) : playR ls (es.take (j + 1)) = stepR (playR ls (es.take j)) x := by
  obtain ⟨hj, rfl⟩ := List.getElem?_eq_some_iff.1 hx
  unfold playR
  rw [List.take_succ_eq_append_getElem hj, List.foldl_append]
  rfl
set_option maxRecDepth 100000 in
set_option maxHeartbeats 16000000 in
theorem play_any (A A2 : Option Addr) (c c2 : Nat) (ls : List Lk) (es : List Ed) (w : World) (hs : Sv w w.heap.size 9 A c (rowsL ls)) (hs2 : Sv w w.heap.size 17 A2 c2 (rowsE es)) (hw : ∀ y, y ∈ es → fits y) (hv : VT ls) (hb : ls.length ≤ 1000) (hb2 : es.length ≤ 1000) (hL : Laid w) :
    Calls Tryd.prog 26 #[.slice A ls.length c, .slice A2 es.length c2] w (RetLS (playR ls es) w) := by
  have HS := Lib.hid hs
  have HS2 := Lib.hid hs2
  have HW := Lib.hid hw
  have HV := Lib.hid hv
  have HL := Lib.hid hL
  clear hs hs2 hw hv hL
  go_enter Tryd.func26, Tryd.ntmps26
  go_wp2
  go_loopw [0, 11] (fun v i wr => ∃ (j : Nat) (ms : List Lk) (A' : Option Addr) (c' : Nat), j ≤ es.length ∧ i = .int .i64 j ∧ v = .slice A' ms.length c' ∧ ms = playR ls (es.take j) ∧ Sv wr wr.heap.size 9 A' c' (rowsL ms) ∧ VT ms ∧ ms.length ≤ ls.length + j ∧ Ext w wr) (fun _ i _ => es.length - (intOf i).toNat)
  case atStart => exact ⟨0, ls, A, c, Nat.zero_le _, rfl, rfl, rfl, HS.out, HV.out, Nat.le_refl _, Ext.refl _⟩
  case round =>
    obtain ⟨j, ms, A', c', hj, rfl, rfl, hms, hsm, hvm, hlm, hx⟩ := hrel
    have HMS := Lib.hid hms; have HSM := Lib.hid hsm; have HVM := Lib.hid hvm; have HXX := Lib.hid hx
    clear hms hsm hvm hx
    by_cases hlt : j < es.length
    · obtain ⟨x, hxj⟩ : ∃ x, es[j]? = some x := ⟨_, List.getElem?_eq_getElem hlt⟩
      have HST := Lib.hid (show playR ls (es.take (j + 1)) = stepR ms x from by rw [play_step hxj, HMS.out])
      have HFX := Lib.hid (HW.out x (List.mem_of_getElem? hxj))
      obtain ⟨b', off, rfl, hbl, hrow⟩ := ed_row (HS2.out.ext HXX.out) hxj
      have HRW := Lib.hid hrow
      have B4 := Arr.new wr 30 [.int .i64 0, .int .i64 0, .int .i64 0, .int .i64 0, .int .i64 0, .int .i64 0, .int .i64 0, .int .i64 0, .int .i64 0, .int .i64 0, .int .i64 0, .int .i64 0, .int .i64 0, .int .i64 0, .int .i64 0, .int .i64 0, .int .i64 0]
      have B5 := B4.setRow x.cells
      have xa : Ext wr ((wr.alloc (.cells #[.int .i64 0, .int .i64 0, .int .i64 0, .int .i64 0, .int .i64 0, .int .i64 0, .int .i64 0, .int .i64 0, .int .i64 0, .int .i64 0, .int .i64 0, .int .i64 0, .int .i64 0, .int .i64 0, .int .i64 0, .int .i64 0, .int .i64 0] 30)).setRow wr.heap.size x.cells.toArray) := ((Ext.refl wr).alloc _).setRow (Nat.le_refl _) _
      have X2 := Lib.hid (HXX.out.trans xa)
      have S2 := Lib.hid (HSM.out.ext xa)
      have HB5 := Lib.hid B5
      have cB : World.cell? _ ⟨wr.heap.size, 4, none⟩ = some (.int .i64 x.kind) := B5.cell 4
      have lB := B5.lt
      have HTK := Lib.hid (takeP_at (x := x) HVM.out HFX.out (by omega) A' c' _ S2.out (HL.out.ext X2.out))
      have HFR := Lib.hid (freeP_at (x := x) HVM.out HFX.out (by omega) A' c' _ S2.out (HL.out.ext X2.out))
      clear hrow hxj xa B5
      by_cases h7 : x.kind = 7
      · have k7 : (x.kind == 7) = true := by simp [h7]
        have HK := Lib.hid (show stepR ms x = (if (takeR ms x).2 = 0 then (takeR ms x).1 else ms) from by unfold stepR; rw [if_pos h7])
        clear h7
        go_wp2_with (first
          | (refine wpList_load_mid rfl 30 (.tmp 13) rfl b' (off + j * 17) rfl x.cells _ HRW.out Tryd.underlying30 rfl (by kernel_rfl) ?_)
          | (refine wpList_store_blk 30 (.tmp 6) (.tmp 14) rfl rfl B4 x.cells rfl rfl (by kernel_rfl) rfl rfl ?_)
          | (refine wpList_load_blk 30 (.tmp 6) rfl rfl HB5.out rfl _ Tryd.underlying30 rfl (by kernel_rfl) ?_))
        refine HTK.out.mono ?_
        rintro e w2 ⟨A3, c3, rfl, s3, x3⟩
        have X3 := Lib.hid (X2.out.trans x3)
        have S3 := Lib.hid (S2.out.ext x3)
        have s3 := Lib.hid s3
        clear x3 cB lB
        by_cases he : (takeR ms x).2 = 0
        · have HK2 := Lib.hid (show stepR ms x = (takeR ms x).1 from by rw [HK.out, if_pos he])
          rw [he]
          clear he
          generalize (takeR ms x).1 = ns at s3 HK2 ⊢
          go_wp2
          go_roundw
          case rel => exact ⟨j + 1, ns, A3, c3, by omega, by go_num, rfl, by rw [HST.out, HK2.out], s3.out, by rw [← HK2.out]; exact step_VT HVM.out, by have := step_len ms x; rw [HK2.out] at this; omega, X3.out⟩
          case measure => simp [intOf]; omega
        · have HK2 := Lib.hid (show stepR ms x = ms from by rw [HK.out, if_neg he])
          have hne : ((takeR ms x).2 == 0) = false := by simpa using he
          clear he
          generalize (takeR ms x).2 = er at hne ⊢
          go_wp2
          go_roundw
          case rel => exact ⟨j + 1, ms, A', c', by omega, by go_num, rfl, by rw [HST.out, HK2.out], S3.out, HVM.out, by omega, X3.out⟩
          case measure => simp [intOf]; omega
      · have k7 : (x.kind == 7) = false := by simpa using h7
        by_cases h8 : x.kind = 8
        · have k8 : (x.kind == 8) = true := by simp [h8]
          have HK := Lib.hid (show stepR ms x = (if (freeR ms x).2 = 0 then (freeR ms x).1 else ms) from by unfold stepR; rw [if_neg h7, if_pos h8])
          clear h7 h8
          go_wp2_with (first
            | (refine wpList_load_mid rfl 30 (.tmp 13) rfl b' (off + j * 17) rfl x.cells _ HRW.out Tryd.underlying30 rfl (by kernel_rfl) ?_)
            | (refine wpList_store_blk 30 (.tmp 6) (.tmp 14) rfl rfl B4 x.cells rfl rfl (by kernel_rfl) rfl rfl ?_)
            | (refine wpList_load_blk 30 (.tmp 6) rfl rfl HB5.out rfl _ Tryd.underlying30 rfl (by kernel_rfl) ?_))
          refine HFR.out.mono ?_
          rintro e w2 ⟨A3, c3, rfl, s3, x3⟩
          have X3 := Lib.hid (X2.out.trans x3)
          have S3 := Lib.hid (S2.out.ext x3)
          have s3 := Lib.hid s3
          clear x3 cB lB
          by_cases he : (freeR ms x).2 = 0
          · have HK2 := Lib.hid (show stepR ms x = (freeR ms x).1 from by rw [HK.out, if_pos he])
            rw [he]
            clear he
            generalize (freeR ms x).1 = ns at s3 HK2 ⊢
            go_wp2
            go_roundw
            case rel => exact ⟨j + 1, ns, A3, c3, by omega, by go_num, rfl, by rw [HST.out, HK2.out], s3.out, by rw [← HK2.out]; exact step_VT HVM.out, by have := step_len ms x; rw [HK2.out] at this; omega, X3.out⟩
            case measure => simp [intOf]; omega
          · have HK2 := Lib.hid (show stepR ms x = ms from by rw [HK.out, if_neg he])
            have hne : ((freeR ms x).2 == 0) = false := by simpa using he
            clear he
            generalize (freeR ms x).2 = er at hne ⊢
            go_wp2
            go_roundw
            case rel => exact ⟨j + 1, ms, A', c', by omega, by go_num, rfl, by rw [HST.out, HK2.out], S3.out, HVM.out, by omega, X3.out⟩
            case measure => simp [intOf]; omega
        · have k8 : (x.kind == 8) = false := by simpa using h8
          have HK := Lib.hid (show stepR ms x = ms from by unfold stepR; rw [if_neg h7, if_neg h8])
          clear h7 h8
          go_wp2_with (first
            | (refine wpList_load_mid rfl 30 (.tmp 13) rfl b' (off + j * 17) rfl x.cells _ HRW.out Tryd.underlying30 rfl (by kernel_rfl) ?_)
            | (refine wpList_store_blk 30 (.tmp 6) (.tmp 14) rfl rfl B4 x.cells rfl rfl (by kernel_rfl) rfl rfl ?_)
            | (refine wpList_load_blk 30 (.tmp 6) rfl rfl HB5.out rfl _ Tryd.underlying30 rfl (by kernel_rfl) ?_))
          go_roundw
          case rel => exact ⟨j + 1, ms, A', c', by omega, by go_num, rfl, by rw [HST.out, HK.out], S2.out, HVM.out, by omega, X2.out⟩
          case measure => simp [intOf]; omega
    · obtain rfl : j = es.length := by omega
      rw [List.take_length] at HMS
      go_wp2
      go_ret
      rw [← HMS.out]
      exact ⟨A', c', rfl, HSM.out, HXX.out⟩
end Go.Proofs.YtjceebpafnnffaaDoor

namespace Go.Proofs.YtjceebpafnnffaaDoor
open Go Go.RowKit

theorem one_slice {c : Nat} {es : List Ed} {w : World} {b off : Nat} (hs : Sv w w.heap.size 17 (some ⟨b, off, none⟩) c (rowsE es)) {k : Nat} {x : Ed} (hx : es[k]? = some x) (hck : ¬ (c = k)) : Sv w w.heap.size 17 (some ⟨b, off + k * 17, none⟩) (c - k) (rowsE [x]) := by
  obtain ⟨hk, rfl⟩ := List.getElem?_eq_some_iff.1 hx
  have h1 := (hs.drop (i := k) (by rw [rowsE_length]; omega)).take 1
  rw [if_neg hck, Option.map_some, add_lit] at h1
  have e : (rowsE es).drop k = rowsE (es.drop k) := by simp [rowsE, List.map_drop]
  rw [e] at h1
  have e2 : es.drop k = es[k] :: es.drop (k + 1) := by rw [List.getElem_cons_drop]
  rw [e2] at h1
  exact h1
set_option maxRecDepth 100000 in
set_option maxHeartbeats 16000000 in
theorem LockStaysValid_any (A : Option Addr) (c : Nat) (es : List Ed) (w : World) (hs : Sv w w.heap.size 17 A c (rowsE es)) (hw : ∀ y, y ∈ es → fits y) (hL : Laid w) :
    Calls Tryd.prog 5 #[.slice A es.length c] w fun e w' => e = .returned (.bool true) ∧ Ext w w' := by
  have hle := hs.le
  have hmx := hs.max
  rw [rowsE_length] at hle
  unfold maxLen at hmx
  have HS := Lib.hid hs
  have HW := Lib.hid hw
  have HL := Lib.hid hL
  clear hs hw hL
  by_cases hb : es.length ≤ 40
  · go_enter Tryd.func5, Tryd.ntmps5
    go_wp2
    go_loopw [3, 16] (fun v i wr => ∃ (k : Nat) (ms : List Lk) (A' : Option Addr) (c' : Nat), k ≤ es.length ∧ i = .int .i64 k ∧ v = .slice A' ms.length c' ∧ Sv wr wr.heap.size 9 A' c' (rowsL ms) ∧ VT ms ∧ ms.length ≤ k ∧ Ext w wr) (fun _ i _ => es.length - (intOf i).toNat)
    case atStart => exact ⟨0, [], none, 0, Nat.zero_le _, rfl, rfl, Sv.nil _ _ _, VT.nil, Nat.le_refl _, Ext.refl _⟩
    case round =>
      obtain ⟨k, ms, A', c', hk, rfl, rfl, hsm, hvm, hlm, hx⟩ := hrel
      have HSM := Lib.hid hsm; have HVM := Lib.hid hvm; have HXX := Lib.hid hx
      clear hsm hvm hx
      by_cases hlt : k < es.length
      · obtain ⟨x, hxk⟩ : ∃ x, es[k]? = some x := ⟨_, List.getElem?_eq_getElem hlt⟩
        have HFX := Lib.hid (HW.out x (List.mem_of_getElem? hxk))
        have HXK := Lib.hid hxk
        obtain ⟨b', off, rfl, hbl, hrow⟩ := ed_row (HS.out.ext HXX.out) hxk
        have HRW := Lib.hid hrow
        have B4 := Arr.new wr 30 [.int .i64 0, .int .i64 0, .int .i64 0, .int .i64 0, .int .i64 0, .int .i64 0, .int .i64 0, .int .i64 0, .int .i64 0, .int .i64 0, .int .i64 0, .int .i64 0, .int .i64 0, .int .i64 0, .int .i64 0, .int .i64 0, .int .i64 0]
        have B5 := B4.setRow x.cells
        have xa : Ext wr ((wr.alloc (.cells #[.int .i64 0, .int .i64 0, .int .i64 0, .int .i64 0, .int .i64 0, .int .i64 0, .int .i64 0, .int .i64 0, .int .i64 0, .int .i64 0, .int .i64 0, .int .i64 0, .int .i64 0, .int .i64 0, .int .i64 0, .int .i64 0, .int .i64 0] 30)).setRow wr.heap.size x.cells.toArray) := ((Ext.refl wr).alloc _).setRow (Nat.le_refl _) _
        have X2 := Lib.hid (HXX.out.trans xa)
        have S2 := Lib.hid (HSM.out.ext xa)
        have HB5 := Lib.hid B5
        have HTK := Lib.hid (takeP_at (x := x) HVM.out HFX.out (by omega) A' c' _ S2.out (HL.out.ext X2.out))
        clear hrow hxk xa B5
        go_wp2_with (first
          | (refine wpList_load_mid rfl 30 (.tmp 19) rfl b' (off + k * 17) rfl x.cells _ HRW.out Tryd.underlying30 rfl (by kernel_rfl) ?_)
          | (refine wpList_store_blk 30 (.tmp 5) (.tmp 20) rfl rfl B4 x.cells rfl rfl (by kernel_rfl) rfl rfl ?_)
          | (refine wpList_load_blk 30 (.tmp 5) rfl rfl HB5.out rfl _ Tryd.underlying30 rfl (by kernel_rfl) ?_))
        refine HTK.out.mono ?_
        rintro e w2 ⟨A3, c3, rfl, _, x3⟩
        have X3 := Lib.hid (X2.out.trans x3)
        have S3 := Lib.hid (S2.out.ext x3)
        have B6 := HB5.out.ext x3
        have HFR := Lib.hid (freeP_at (x := x) HVM.out HFX.out (by omega) A' c' _ S3.out (HL.out.ext X3.out))
        clear x3
        go_wp2_with (first
          | (refine wpList_load_blk 30 (.tmp 5) rfl rfl B6 rfl _ Tryd.underlying30 rfl (by kernel_rfl) ?_))
        refine HFR.out.mono ?_
        rintro e w3 ⟨A4, c4, rfl, _, x4⟩
        have X4 := Lib.hid (X3.out.trans x4)
        have S4 := Lib.hid (S3.out.ext x4)
        clear x4 B6
        have hck : ¬ (c = k) := by omega
        have HP := Lib.hid (play_any A' (some ⟨b', off + k * 17, none⟩) c' (c - k) ms [x] w3 S4.out (one_slice (HS.out.ext X4.out) HXK.out hck) (fun y hy => by rw [List.mem_singleton.1 hy]; exact HFX.out) HVM.out (by omega) (by simp) (HL.out.ext X4.out))
        have HSV := Lib.hid (step_VT (x := x) HVM.out)
        have hsl := step_len ms x
        have HPE := Lib.hid (show playR ms [x] = stepR ms x from rfl)
        have HT0 := Lib.hid (fun h => take_none (ls := ms) (x := x) h)
        have HF0 := Lib.hid (fun h => free_none (ls := ms) (x := x) h)
        have HTF := Lib.hid (fun (h : (takeR ms x).2 = 0) (h2 : (freeR ms x).2 = 0) => take_free h h2)
        generalize playR ms [x] = ns at HP HPE
        have hnl : ns.length ≤ k + 1 := by rw [HPE.out]; omega
        have HNV := Lib.hid (show VT ns from by rw [HPE.out]; exact HSV.out)
        clear hsl HPE HSV
        have e1 : (k : Int) + 1 - (k : Int) = 1 := by omega
        generalize (takeR ms x).1 = l1 at HT0 ⊢
        generalize (takeR ms x).2 = e1v at HT0 HTF ⊢
        generalize (freeR ms x).1 = l2 at HF0 ⊢
        generalize (freeR ms x).2 = e2v at HF0 HTF ⊢
        have hcases : (e1v = 0 ∧ e2v ≠ 0 ∧ l2 = []) ∨ (e1v ≠ 0 ∧ l1 = [] ∧ e2v = 0) ∨ (e1v ≠ 0 ∧ l1 = [] ∧ e2v ≠ 0 ∧ l2 = []) := by
          by_cases h1 : e1v = 0
          · by_cases h2 : e2v = 0
            · exact (HTF.out h1 h2).elim
            · exact .inl ⟨h1, h2, HF0.out h2⟩
          · by_cases h2 : e2v = 0
            · exact .inr (.inl ⟨h1, HT0.out h1, h2⟩)
            · exact .inr (.inr ⟨h1, HT0.out h1, h2, HF0.out h2⟩)
        clear HT0 HF0 HTF e1
        rcases hcases with ⟨rfl, h2, rfl⟩ | ⟨h1, rfl, rfl⟩ | ⟨h1, rfl, h2, rfl⟩
        · have hn2 : (e2v == 0) = false := by simpa using h2
          have hn3 : (e2v != 0) = true := by simpa using h2
          clear h2
          go_wp2_with fail
          refine HP.out.mono ?_
          rintro e w4 ⟨A5, c5, rfl, s5, x5⟩
          have X5 := Lib.hid (X4.out.trans x5)
          have S5 := Lib.hid s5
          clear x5 s5
          have hrv := refValid_any A5 c5 ns w4 S5.out (by omega)
          rw [(validR_VT ns).2 HNV.out] at hrv
          have HRV := Lib.hid hrv
          clear hrv
          go_wp2_with fail
          refine HRV.out.mono ?_
          rintro e w5 ⟨rfl, x6⟩
          have X6 := Lib.hid (X5.out.trans x6)
          have S6 := Lib.hid (S5.out.ext x6)
          clear x6
          go_wp2
          go_roundw
          case rel => exact ⟨k + 1, ns, A5, c5, by omega, by go_num, rfl, S6.out, HNV.out, hnl, X6.out⟩
          case measure => simp [intOf]; omega
        · have hn2 : (e1v == 0) = false := by simpa using h1
          have hn3 : (e1v != 0) = true := by simpa using h1
          clear h1
          go_wp2_with fail
          refine HP.out.mono ?_
          rintro e w4 ⟨A5, c5, rfl, s5, x5⟩
          have X5 := Lib.hid (X4.out.trans x5)
          have S5 := Lib.hid s5
          clear x5 s5
          have hrv := refValid_any A5 c5 ns w4 S5.out (by omega)
          rw [(validR_VT ns).2 HNV.out] at hrv
          have HRV := Lib.hid hrv
          clear hrv
          go_wp2_with fail
          refine HRV.out.mono ?_
          rintro e w5 ⟨rfl, x6⟩
          have X6 := Lib.hid (X5.out.trans x6)
          have S6 := Lib.hid (S5.out.ext x6)
          clear x6
          go_wp2
          go_roundw
          case rel => exact ⟨k + 1, ns, A5, c5, by omega, by go_num, rfl, S6.out, HNV.out, hnl, X6.out⟩
          case measure => simp [intOf]; omega
        · have hn2 : (e1v == 0) = false := by simpa using h1
          have hn3 : (e1v != 0) = true := by simpa using h1
          have hn4 : (e2v == 0) = false := by simpa using h2
          have hn5 : (e2v != 0) = true := by simpa using h2
          clear h1 h2
          go_wp2_with fail
          refine HP.out.mono ?_
          rintro e w4 ⟨A5, c5, rfl, s5, x5⟩
          have X5 := Lib.hid (X4.out.trans x5)
          have S5 := Lib.hid s5
          clear x5 s5
          have hrv := refValid_any A5 c5 ns w4 S5.out (by omega)
          rw [(validR_VT ns).2 HNV.out] at hrv
          have HRV := Lib.hid hrv
          clear hrv
          go_wp2_with fail
          refine HRV.out.mono ?_
          rintro e w5 ⟨rfl, x6⟩
          have X6 := Lib.hid (X5.out.trans x6)
          have S6 := Lib.hid (S5.out.ext x6)
          clear x6
          go_wp2
          go_roundw
          case rel => exact ⟨k + 1, ns, A5, c5, by omega, by go_num, rfl, S6.out, HNV.out, hnl, X6.out⟩
          case measure => simp [intOf]; omega
      · obtain rfl : k = es.length := by omega
        go_wp2_with fail
        refine (sanity_any _ (HL.out.ext HXX.out)).mono ?_
        rintro e w2 ⟨rfl, x2⟩
        go_wp2
        go_ret
        exact ⟨rfl, HXX.out.trans x2⟩
  · go_enter Tryd.func5, Tryd.ntmps5
    go_wp2_with fail
    refine (sanity_any w HL.out).mono ?_
    rintro e w1 ⟨rfl, x1⟩
    go_wp2
    go_ret
    exact ⟨rfl, x1⟩
end Go.Proofs.YtjceebpafnnffaaDoor

namespace Go.Proofs.YtjceebpafnnffaaDoor
open Go Go.RowKit Go.ChangeShapes Go.WideShapes Go.ChangeAt

set_option maxHeartbeats 1600000 in
set_option maxRecDepth 100000 in
theorem lockStaysValid_lifted (os : Os) (started : os.Started) (H : Type) (enc : TypeId × Value → H) :
    ReturnsInHanded {} Tryd.checked os 5 .any (fun w args => (Rows.lockStaysValidSpec.pre enc Tryd.prog Tryd.f5 Rows.lockStaysValidRow.domain false w args ∧ laidMetH Tryd.prog laidL w) ∧ sizedMet enc Tryd.prog Tryd.f5 (OpenSpec.ofChange Rows.lockStaysValidSpec) false w args) (Rows.lockStaysValidSpec.post enc Tryd.prog Tryd.f5 false true false false) := by
  refine returnsInHanded_of_change_and (C := Tryd.checked) (X := fun w _ => laidMetH Tryd.prog laidL w) (fun _ _ _ hh h => h.of_heap hh) own_ started (by kernel_rfl) Tryd.func5
    (ChangeSpec.witness_shaped (enc := enc) (C := Tryd.checked) (os := os) (X := fun w _ => laidMetH Tryd.prog laidL w) false (World.laidAll Tryd.prog os laidL) #[.slice none 0 0] 8 (World.laidAll_os _ _ _) (World.shaped_of_ZipB (by kernel_rfl) (by kernel_rfl)) (by kernel_rfl) (by kernel_rfl) (by kernel_rfl)
      (by rw [MakeChecks.laidMetH_plain _ _ _ (by kernel_rfl)]; exact laidMet_laidAll _ (by kernel_rfl) (by kernel_rfl))) ?_
  intro W base args ds gs before hval0 hW hcnd _ hLd _
  have hval : ∀ (j : Nat) t v, Tryd.f5.params[j]? = some t → args[j]? = some v → Value.okWide Tryd.prog W .any base t v := hval0
  have hLd := laid_of hLd
  have hW' := hW
  obtain ⟨p, q, hA0, hV, rfl, hfz, hnd⟩ := hW
  have hA : DataW.TrodAll enc Tryd.prog W 0 (fun _ => true) true Tryd.f5.params.toList args.toList ds p := hA0
  have hAll := hA
  rw [Tryd.params5] at hA hval
  obtain ⟨v0, vs0, d0, ds0, p0, q0, ha, rfl, rfl, h0, r0⟩ := trodAll_cons hA
  obtain ⟨rfl, rfl, rfl⟩ := trodAll_nil r0
  obtain ⟨rfl, rfl⟩ := trodVars_none hV
  have hargs : args = #[v0] := by apply Array.ext'; exact ha
  subst hargs
  obtain ⟨A, c, l, rfl, hs, hfit⟩ := read_edits (hval 0 _ _ rfl rfl) h0
  refine (LockStaysValid_any A c l W hs hfit hLd).mono fun e W' ⟨he, hx⟩ => ?_
  subst he
  have hlt : ∀ x, x ∈ (p0 ++ []) → x.block < W.heap.size := fun x hx2 => hW'.lt x (by simpa using hx2)
  exact ⟨_, rfl, _, _, _, [], _, [], hW', trodAll_mk1 (shut_bool Tryd.underlying4 true), args_below laidOut_ _ _ _ _ W' (by rw [Tryd.params5]; intro t ht; simp at ht; rcases ht with rfl <;> exact ⟨by kernel_rfl, of_decide_eq_true (by kernel_rfl)⟩) hAll hx.below hlt, rfl, hx.below.frame _, fun h => by cases h⟩

theorem lockStaysValid_row : Rows.LockStaysValidSaid :=
  OpenClaim.holds_of_wide 5 Tryd.f5 rfl rfl rfl rfl rfl rfl rfl ⟨rfl, rfl, rfl, rfl, rfl⟩ rfl rfl rfl rfl rfl (by kernel_rfl) Tryd.func5 (by kernel_rfl)
    (of_decide_eq_true (by kernel_rfl)) (by unfold Func.isWrapper; rw [if_neg (of_decide_eq_false (by kernel_rfl))]; exact ⟨rfl, rfl⟩)
    (fun os started H enc _ => lockStaysValid_lifted os started H enc)

theorem lockStaysValid_holds : Rows.LockStaysValidCardSaid :=
  Claim7.holds_tied_plain_at .later [] [.data, .data] true Rows.lockStaysValidCard.stood.harness false
    lockStaysValid_row (fun _ h => by cases h) (by kernel_rfl) (fun _ h => by cases h) lockStaysValid_row_tie rfl ⟨rfl, rfl⟩ (by kernel_rfl) rfl
    (fun f fn hf hfn => by
      obtain rfl : f = 5 := Option.some.inj ((show Tryd.prog.funcNamed "voxel/voxellaw28.LockStaysValid" = some 5 by kernel_rfl).symm.trans hf) |>.symm
      obtain rfl : fn = Tryd.f5 := (Option.some.inj (Tryd.func5.symm.trans hfn)).symm
      exact ⟨by kernel_rfl, fun j t ht => by
        rw [Tryd.params5] at ht
        have hm : t ∈ [44] := by simpa using Array.mem_of_getElem? ht
        have hall : ([44].all fun u => !Tryd.prog.wantsStandIn u) = true := by kernel_rfl
        exact (show Tryd.prog.wantsStandIn t = false by simpa using List.all_eq_true.1 hall t hm)⟩)
    (by kernel_rfl)
end Go.Proofs.YtjceebpafnnffaaDoor
