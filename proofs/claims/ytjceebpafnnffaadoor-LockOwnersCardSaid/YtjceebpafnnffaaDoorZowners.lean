/- LockFrees, walked. · LockBlocksOthers, walked. · A region that draws its order: what each operation yields is known by a property that stays true while memory grows. Calls that make memory are let in. · LockOwners, walked. · LockOwners: for every input the law returns true, and each argument reads as it did. No condition. -/
import Derived.Test.YtjceebpafnnffaaDoorTie
import Derived.Test.YtjceebpafnnffaaDoorCards
import Derived.LaidLaws
import Derived.SevenTiedAt
import Derived.Test.YtjceebpafnnffaaDoorZa8
namespace Go.Proofs.YtjceebpafnnffaaDoor
open Go Go.RowKit

theorem few_VT {ls : List Lk} (h : (decide (ls.length ≤ 60) && validR ls) = true) : VT ls ∧ ls.length ≤ 60 := by
  rw [Bool.and_eq_true, decide_eq_true_eq, validR_VT] at h
  exact ⟨h.2, h.1⟩
theorem takeP_at {ls : List Lk} {x : Ed} (hv : VT ls) (hw : fits x) (hb : ls.length ≤ 1000000) (A : Option Addr) (c : Nat) (w : World) (hs : Sv w w.heap.size 9 A c (rowsL ls)) (hL : Laid w) :
    Calls Tryd.prog 11 #[.slice A ls.length c, .agg #[.int .i64 x.st.tick, .int .i64 x.st.clock, .int .i64 x.st.site, .int .i64 x.st.seq, .int .i64 x.kind, .int .i64 x.box.lo.x, .int .i64 x.box.lo.y, .int .i64 x.box.lo.z, .int .i64 x.box.hi.x, .int .i64 x.box.hi.y, .int .i64 x.box.hi.z, .int .i64 x.at_.x, .int .i64 x.at_.y, .int .i64 x.at_.z, .int .i64 x.turn, .int .i64 x.cell, .int .i64 x.size]] w (RetTS (takeR ls x).1 (takeR ls x).2 w) := by
  have h1 := LTake_any A c ls x w hs hb hL.rows hv.sorted
  rw [take_eq hv hw] at h1
  exact h1.mono fun _ _ h => h.read
theorem freeP_at {ls : List Lk} {x : Ed} (hv : VT ls) (hw : fits x) (hb : ls.length ≤ 1000000) (A : Option Addr) (c : Nat) (w : World) (hs : Sv w w.heap.size 9 A c (rowsL ls)) (hL : Laid w) :
    Calls Tryd.prog 13 #[.slice A ls.length c, .agg #[.int .i64 x.st.tick, .int .i64 x.st.clock, .int .i64 x.st.site, .int .i64 x.st.seq, .int .i64 x.kind, .int .i64 x.box.lo.x, .int .i64 x.box.lo.y, .int .i64 x.box.lo.z, .int .i64 x.box.hi.x, .int .i64 x.box.hi.y, .int .i64 x.box.hi.z, .int .i64 x.at_.x, .int .i64 x.at_.y, .int .i64 x.at_.z, .int .i64 x.turn, .int .i64 x.cell, .int .i64 x.size]] w (RetTS (freeR ls x).1 (freeR ls x).2 w) := by
  have h1 := LFree_any A c ls x w hs hb hL.rows hv.sorted
  rw [free_eq hv hw] at h1
  exact h1.mono fun _ _ h => h.read
theorem fits_undo (x : Ed) : fits (undoE x) := ⟨by show (0:Int) ≤ _; decide, by show (0:Int) ≤ _; decide, by show (0:Int) ≤ _; decide⟩
set_option maxRecDepth 100000 in
set_option maxHeartbeats 8000000 in
theorem LockFrees_any (A : Option Addr) (c : Nat) (ls : List Lk) (x : Ed) (w : World) (hs : Sv w w.heap.size 9 A c (rowsL ls)) (hw : fits x) (hL : Laid w) :
    Calls Tryd.prog 7 #[.slice A ls.length c, .agg #[.int .i64 x.st.tick, .int .i64 x.st.clock, .int .i64 x.st.site, .int .i64 x.st.seq, .int .i64 x.kind, .int .i64 x.box.lo.x, .int .i64 x.box.lo.y, .int .i64 x.box.lo.z, .int .i64 x.box.hi.x, .int .i64 x.box.hi.y, .int .i64 x.box.hi.z, .int .i64 x.at_.x, .int .i64 x.at_.y, .int .i64 x.at_.z, .int .i64 x.turn, .int .i64 x.cell, .int .i64 x.size]] w fun e w' => e = .returned (.bool true) ∧ Ext w w' := by
  have HS := Lib.hid hs
  have HL := Lib.hid hL
  have HW := Lib.hid hw
  have HFW := Lib.hid (fun (w' : World) (hx : Ext w w') => few_any A c ls w' (HS.out.ext hx))
  clear hs hL hw
  cases hf : decide (ls.length ≤ 60) && validR ls
  · rw [hf] at HFW
    clear hf
    go_enter Tryd.func7, Tryd.ntmps7
    go_upto_region 1 with fail
    obtain ⟨W0, hW⟩ : ∃ W, W = w.alloc (.cells #[.int .i64 x.st.tick, .int .i64 x.st.clock, .int .i64 x.st.site, .int .i64 x.st.seq, .int .i64 x.kind, .int .i64 x.box.lo.x, .int .i64 x.box.lo.y, .int .i64 x.box.lo.z, .int .i64 x.box.hi.x, .int .i64 x.box.hi.y, .int .i64 x.box.hi.z, .int .i64 x.at_.x, .int .i64 x.at_.y, .int .i64 x.at_.z, .int .i64 x.turn, .int .i64 x.cell, .int .i64 x.size] 30) := ⟨_, rfl⟩
    have hx0 : Ext w W0 := by rw [hW]; exact (Ext.refl w).alloc _
    have B0 : Arr W0 w.heap.size 30 [.int .i64 x.st.tick, .int .i64 x.st.clock, .int .i64 x.st.site, .int .i64 x.st.seq, .int .i64 x.kind, .int .i64 x.box.lo.x, .int .i64 x.box.lo.y, .int .i64 x.box.lo.z, .int .i64 x.box.hi.x, .int .i64 x.box.hi.y, .int .i64 x.box.hi.z, .int .i64 x.at_.x, .int .i64 x.at_.y, .int .i64 x.at_.z, .int .i64 x.turn, .int .i64 x.cell, .int .i64 x.size] := by rw [hW]; exact Arr.new w _ _
    rw [← hW]
    clear hW
    have cB0 := B0.cell
    have fB0 := B0.frozen
    have lB0 := B0.lt
    go_wp2_with fail
    refine (HFW.out _ hx0).mono ?_
    rintro e w1 ⟨rfl, x1⟩
    go_wp2_with fail
    refine (sanity_any _ (HL.out.ext (hx0.trans x1))).mono ?_
    rintro e w2 ⟨rfl, x2⟩
    go_wp2
    go_ret
    exact ⟨rfl, (hx0.trans x1).trans x2⟩
  · rw [hf] at HFW
    obtain ⟨hv, hb⟩ := few_VT hf
    have HV := Lib.hid hv
    clear hf hv
    by_cases hsq : 1000 ≤ x.st.seq
    · have hd : decide ((1000 : Int) ≤ x.st.seq) = true := decide_eq_true hsq
      clear hsq
      go_enter Tryd.func7, Tryd.ntmps7
      go_upto_region 1 with fail
      obtain ⟨W0, hW⟩ : ∃ W, W = w.alloc (.cells #[.int .i64 x.st.tick, .int .i64 x.st.clock, .int .i64 x.st.site, .int .i64 x.st.seq, .int .i64 x.kind, .int .i64 x.box.lo.x, .int .i64 x.box.lo.y, .int .i64 x.box.lo.z, .int .i64 x.box.hi.x, .int .i64 x.box.hi.y, .int .i64 x.box.hi.z, .int .i64 x.at_.x, .int .i64 x.at_.y, .int .i64 x.at_.z, .int .i64 x.turn, .int .i64 x.cell, .int .i64 x.size] 30) := ⟨_, rfl⟩
      have hx0 : Ext w W0 := by rw [hW]; exact (Ext.refl w).alloc _
      have B0 : Arr W0 w.heap.size 30 [.int .i64 x.st.tick, .int .i64 x.st.clock, .int .i64 x.st.site, .int .i64 x.st.seq, .int .i64 x.kind, .int .i64 x.box.lo.x, .int .i64 x.box.lo.y, .int .i64 x.box.lo.z, .int .i64 x.box.hi.x, .int .i64 x.box.hi.y, .int .i64 x.box.hi.z, .int .i64 x.at_.x, .int .i64 x.at_.y, .int .i64 x.at_.z, .int .i64 x.turn, .int .i64 x.cell, .int .i64 x.size] := by rw [hW]; exact Arr.new w _ _
      rw [← hW]
      clear hW
      have cB0 := B0.cell
      have fB0 := B0.frozen
      have lB0 := B0.lt
      go_wp2_with fail
      refine (HFW.out _ hx0).mono ?_
      rintro e w1 ⟨rfl, x1⟩
      have B1 := Arr.ext B0 x1
      have cB1 := B1.cell
      go_wp2_with fail
      refine (sanity_any _ (HL.out.ext (hx0.trans x1))).mono ?_
      rintro e w2 ⟨rfl, x2⟩
      go_wp2
      go_ret
      exact ⟨rfl, (hx0.trans x1).trans x2⟩
    · have hd : decide ((1000 : Int) ≤ x.st.seq) = false := decide_eq_false hsq
      have HSQ := Lib.hid (show x.st.seq < 1000 by omega)
      clear hsq
      go_enter Tryd.func7, Tryd.ntmps7
      go_upto_region 1 with fail
      obtain ⟨W0, hW⟩ : ∃ W, W = w.alloc (.cells #[.int .i64 x.st.tick, .int .i64 x.st.clock, .int .i64 x.st.site, .int .i64 x.st.seq, .int .i64 x.kind, .int .i64 x.box.lo.x, .int .i64 x.box.lo.y, .int .i64 x.box.lo.z, .int .i64 x.box.hi.x, .int .i64 x.box.hi.y, .int .i64 x.box.hi.z, .int .i64 x.at_.x, .int .i64 x.at_.y, .int .i64 x.at_.z, .int .i64 x.turn, .int .i64 x.cell, .int .i64 x.size] 30) := ⟨_, rfl⟩
      have hx0 : Ext w W0 := by rw [hW]; exact (Ext.refl w).alloc _
      have B0 : Arr W0 w.heap.size 30 [.int .i64 x.st.tick, .int .i64 x.st.clock, .int .i64 x.st.site, .int .i64 x.st.seq, .int .i64 x.kind, .int .i64 x.box.lo.x, .int .i64 x.box.lo.y, .int .i64 x.box.lo.z, .int .i64 x.box.hi.x, .int .i64 x.box.hi.y, .int .i64 x.box.hi.z, .int .i64 x.at_.x, .int .i64 x.at_.y, .int .i64 x.at_.z, .int .i64 x.turn, .int .i64 x.cell, .int .i64 x.size] := by rw [hW]; exact Arr.new w _ _
      rw [← hW]
      clear hW
      have cB0 := B0.cell
      have fB0 := B0.frozen
      have lB0 := B0.lt
      go_wp2_with fail
      refine (HFW.out _ hx0).mono ?_
      rintro e w1 ⟨rfl, x1⟩
      have B1 := Arr.ext B0 x1
      have cB1 := B1.cell
      have X1 := Lib.hid (hx0.trans x1)
      clear x1 hx0 cB0 B0 fB0 lB0
      go_wp2_with (first | (refine wpList_load_blk 30 (.tmp 3) rfl rfl B1 rfl _ Tryd.underlying30 rfl (by kernel_rfl) ?_) | (refine wpList_load_blk 30 (.tmp 3) rfl rfl (B1.alloc _) rfl _ Tryd.underlying30 rfl (by kernel_rfl) ?_) | (refine wpList_load_blk 30 (.tmp 3) rfl rfl ((B1.alloc _).alloc _) rfl _ Tryd.underlying30 rfl (by kernel_rfl) ?_))
      refine (takeP_at HV.out HW.out (by omega) A c w1 (HS.out.ext X1.out) (HL.out.ext X1.out)).mono ?_
      rintro e w2 ⟨A2, c2, rfl, s2, x2⟩
      have X2 := Lib.hid (X1.out.trans x2)
      have B2 := Arr.ext B1 x2
      have cB2 := B2.cell
      clear x2 cB1 B1
      by_cases he : (takeR ls x).2 = 0
      · have hub := undo_facts he HSQ.out
        have htv := take_VT (x := x) HV.out
        have htl := take_len1 ls x
        have HUB := Lib.hid hub
        have HTV := Lib.hid htv
        have hg := (lock_good (take_ok he).1).1
        have hsq1 : 1 ≤ x.st.seq := hg.seq.1
        have hsq2 := HSQ.out
        have HFE := Lib.hid (fun w' => show Calls Tryd.prog 28 #[.int .i64 x.st.tick, .int .i64 x.st.site, .int .i64 (x.st.seq + 1), .int .i64 x.st.seq] w' fun e w'' => e = .returned (.agg #[.int .i64 (undoE x).st.tick, .int .i64 (undoE x).st.clock, .int .i64 (undoE x).st.site, .int .i64 (undoE x).st.seq, .int .i64 (undoE x).kind, .int .i64 (undoE x).box.lo.x, .int .i64 (undoE x).box.lo.y, .int .i64 (undoE x).box.lo.z, .int .i64 (undoE x).box.hi.x, .int .i64 (undoE x).box.hi.y, .int .i64 (undoE x).box.hi.z, .int .i64 (undoE x).at_.x, .int .i64 (undoE x).at_.y, .int .i64 (undoE x).at_.z, .int .i64 (undoE x).turn, .int .i64 (undoE x).cell, .int .i64 (undoE x).size]) ∧ Ext w' w'' from lawfree_any x.st.tick x.st.site (x.st.seq + 1) x.st.seq w')
        clear hub htv hg
        rw [he]
        clear he
        go_wp2_with fail
        refine (HFE.out _).mono ?_
        rintro e w3 ⟨rfl, x3⟩
        have X3 := Lib.hid (X2.out.trans x3)
        have S3 := Lib.hid (s2.ext x3)
        have B3 := Arr.ext B2 x3
        have D4 := Arr.new w3 30 [.int .i64 zeroEd.st.tick, .int .i64 zeroEd.st.clock, .int .i64 zeroEd.st.site, .int .i64 zeroEd.st.seq, .int .i64 zeroEd.kind, .int .i64 zeroEd.box.lo.x, .int .i64 zeroEd.box.lo.y, .int .i64 zeroEd.box.lo.z, .int .i64 zeroEd.box.hi.x, .int .i64 zeroEd.box.hi.y, .int .i64 zeroEd.box.hi.z, .int .i64 zeroEd.at_.x, .int .i64 zeroEd.at_.y, .int .i64 zeroEd.at_.z, .int .i64 zeroEd.turn, .int .i64 zeroEd.cell, .int .i64 zeroEd.size]
        have D5 := D4.setRow [.int .i64 (undoE x).st.tick, .int .i64 (undoE x).st.clock, .int .i64 (undoE x).st.site, .int .i64 (undoE x).st.seq, .int .i64 (undoE x).kind, .int .i64 (undoE x).box.lo.x, .int .i64 (undoE x).box.lo.y, .int .i64 (undoE x).box.lo.z, .int .i64 (undoE x).box.hi.x, .int .i64 (undoE x).box.hi.y, .int .i64 (undoE x).box.hi.z, .int .i64 (undoE x).at_.x, .int .i64 (undoE x).at_.y, .int .i64 (undoE x).at_.z, .int .i64 (undoE x).turn, .int .i64 (undoE x).cell, .int .i64 (undoE x).size]
        have xa : Ext w3 ((w3.alloc (.cells [.int .i64 zeroEd.st.tick, .int .i64 zeroEd.st.clock, .int .i64 zeroEd.st.site, .int .i64 zeroEd.st.seq, .int .i64 zeroEd.kind, .int .i64 zeroEd.box.lo.x, .int .i64 zeroEd.box.lo.y, .int .i64 zeroEd.box.lo.z, .int .i64 zeroEd.box.hi.x, .int .i64 zeroEd.box.hi.y, .int .i64 zeroEd.box.hi.z, .int .i64 zeroEd.at_.x, .int .i64 zeroEd.at_.y, .int .i64 zeroEd.at_.z, .int .i64 zeroEd.turn, .int .i64 zeroEd.cell, .int .i64 zeroEd.size].toArray 30)).setRow w3.heap.size [.int .i64 (undoE x).st.tick, .int .i64 (undoE x).st.clock, .int .i64 (undoE x).st.site, .int .i64 (undoE x).st.seq, .int .i64 (undoE x).kind, .int .i64 (undoE x).box.lo.x, .int .i64 (undoE x).box.lo.y, .int .i64 (undoE x).box.lo.z, .int .i64 (undoE x).box.hi.x, .int .i64 (undoE x).box.hi.y, .int .i64 (undoE x).box.hi.z, .int .i64 (undoE x).at_.x, .int .i64 (undoE x).at_.y, .int .i64 (undoE x).at_.z, .int .i64 (undoE x).turn, .int .i64 (undoE x).cell, .int .i64 (undoE x).size].toArray) := ((Ext.refl w3).alloc _).setRow (Nat.le_refl _) _
        have X4 := Lib.hid (X3.out.trans xa)
        have S4 := Lib.hid (S3.out.ext xa)
        have B4 := Arr.ext B3 xa
        clear x3 s2 B2 B3 cB2 xa hsq1 hsq2
        generalize hml : (takeR ls x).1 = ml at S3 S4 HUB HTV htl
        have HML := Lib.hid hml
        clear hml
        go_wp2_with (first | (refine wpList_store_blk 30 (.tmp 7) (.tmp 46) rfl rfl D4 [.int .i64 (undoE x).st.tick, .int .i64 (undoE x).st.clock, .int .i64 (undoE x).st.site, .int .i64 (undoE x).st.seq, .int .i64 (undoE x).kind, .int .i64 (undoE x).box.lo.x, .int .i64 (undoE x).box.lo.y, .int .i64 (undoE x).box.lo.z, .int .i64 (undoE x).box.hi.x, .int .i64 (undoE x).box.hi.y, .int .i64 (undoE x).box.hi.z, .int .i64 (undoE x).at_.x, .int .i64 (undoE x).at_.y, .int .i64 (undoE x).at_.z, .int .i64 (undoE x).turn, .int .i64 (undoE x).cell, .int .i64 (undoE x).size] rfl rfl (by kernel_rfl) rfl rfl ?_) | (refine wpList_load_blk 30 (.tmp 7) rfl rfl D5 rfl _ Tryd.underlying30 rfl (by kernel_rfl) ?_) | (refine wpList_load_blk 30 (.tmp 7) rfl rfl (D5.alloc _) rfl _ Tryd.underlying30 rfl (by kernel_rfl) ?_) | (refine wpList_load_blk 30 (.tmp 7) rfl rfl ((D5.alloc _).alloc _) rfl _ Tryd.underlying30 rfl (by kernel_rfl) ?_))
        have h5 := freeP_at (x := undoE x) HTV.out (fits_undo x) (by omega) A2 c2 _ S4.out (HL.out.ext X4.out)
        rw [HUB.out.1] at h5
        refine h5.mono ?_
        rintro e w5 ⟨A5, c5, rfl, s5, x5⟩
        have X5 := Lib.hid (X4.out.trans x5)
        have S5 := Lib.hid (S4.out.ext x5)
        have D6 := Arr.ext D5 x5
        have B5 := Arr.ext B4 x5
        clear x5 h5 D5 D4 B4
        have hfl := filter_len (livesL x.st.tick) ls
        have HLV := Lib.hid (HV.out.filter (livesL x.st.tick))
        have HEX := Lib.hid (fun (w' : World) (hx : Ext w w') => (Expire_any A c ls w' (HS.out.ext hx) (by omega) x.st.tick).mono fun _ _ h => RetL.read h)
        generalize ls.filter (livesL x.st.tick) = lv at s5 HUB HLV HEX hfl ⊢
        go_wp2_with (first | (refine wpList_load_blk 30 (.tmp 7) rfl rfl D6 rfl _ Tryd.underlying30 rfl (by kernel_rfl) ?_) | (refine wpList_load_blk 30 (.tmp 7) rfl rfl (D6.alloc _) rfl _ Tryd.underlying30 rfl (by kernel_rfl) ?_) | (refine wpList_load_blk 30 (.tmp 7) rfl rfl ((D6.alloc _).alloc _) rfl _ Tryd.underlying30 rfl (by kernel_rfl) ?_))
        have h6 := freeP_at (x := undoE x) HLV.out (fits_undo x) (by omega) A5 c5 _ s5 (HL.out.ext X5.out)
        rw [HUB.out.2.1] at h6
        refine h6.mono ?_
        rintro e w6 ⟨A6, c6, rfl, _, x6⟩
        have X6 := Lib.hid (X5.out.trans x6)
        have S6 := Lib.hid (S5.out.ext x6)
        have s6 := s5.ext x6
        have B6 := Arr.ext B5 x6
        clear x6 h6 s5 D6 B5
        generalize (freeR lv (undoE x)).1 = m2
        go_wp2_with (first | (refine wpList_load_blk 30 (.tmp 3) rfl rfl B6 rfl _ Tryd.underlying30 rfl (by kernel_rfl) ?_) | (refine wpList_load_blk 30 (.tmp 3) rfl rfl (B6.alloc _) rfl _ Tryd.underlying30 rfl (by kernel_rfl) ?_) | (refine wpList_load_blk 30 (.tmp 3) rfl rfl ((B6.alloc _).alloc _) rfl _ Tryd.underlying30 rfl (by kernel_rfl) ?_))
        have h7 := takeP_at (x := x) HTV.out HW.out (by omega) A2 c2 _ S6.out (HL.out.ext X6.out)
        rw [HUB.out.2.2] at h7
        refine h7.mono ?_
        rintro e w7 ⟨A7, c7, rfl, _, x7⟩
        have X7 := Lib.hid (X6.out.trans x7)
        have s7 := s6.ext x7
        have B7 := Arr.ext B6 x7
        clear x7 h7 s6 B6
        generalize (takeR ml x).1 = m3
        go_wp2_with fail
        refine (sanity_any _ (HL.out.ext X7.out)).mono ?_
        rintro e w8 ⟨rfl, x8⟩
        have X8 := Lib.hid (X7.out.trans x8)
        have s8 := s7.ext x8
        have B8 := Arr.ext B7 x8
        have cB8 := B8.cell
        clear x8 s7 B7 B8
        go_wp2_with fail
        refine (HEX.out _ X8.out).mono ?_
        rintro e w9 ⟨A9, c9, rfl, s9, x9⟩
        have X9 := Lib.hid (X8.out.trans x9)
        have s8 := s8.ext x9
        clear cB8 x9
        go_wp2_with fail
        refine (refSame_any A5 A9 c5 c9 lv lv w9 s8 s9).mono ?_
        rintro e w10 ⟨rfl, x10⟩
        rw [decide_eq_true rfl]
        go_wp2
        go_ret
        exact ⟨rfl, X9.out.trans x10⟩
      · have hne : ((takeR ls x).2 == 0) = false := by simpa using he
        clear he
        generalize (takeR ls x).2 = er at hne ⊢
        go_wp2_with fail
        refine (sanity_any _ (HL.out.ext X2.out)).mono ?_
        rintro e w3 ⟨rfl, x3⟩
        go_wp2
        go_ret
        exact ⟨rfl, X2.out.trans x3⟩
end Go.Proofs.YtjceebpafnnffaaDoor

namespace Go.Proofs.YtjceebpafnnffaaDoor
open Go Go.RowKit

theorem blocks_def (ls : List Lk) (site now : Int) (p : Pt) : blocksL ls site now p = (decide (ownerL ls now p ≠ 0) && decide (ownerL ls now p ≠ site)) := rfl
set_option maxRecDepth 100000 in
set_option maxHeartbeats 16000000 in
theorem LockBlocksOthers_any (A : Option Addr) (c : Nat) (ls : List Lk) (x : Ed) (later site : Int) (p : Pt) (w : World) (hs : Sv w w.heap.size 9 A c (rowsL ls)) (hw : fits x) (h1 : 0 ≤ later ∧ later ≤ 255) (h2 : 0 ≤ site ∧ site ≤ 255) (hL : Laid w) :
    Calls Tryd.prog 6 #[.slice A ls.length c, .agg #[.int .i64 x.st.tick, .int .i64 x.st.clock, .int .i64 x.st.site, .int .i64 x.st.seq, .int .i64 x.kind, .int .i64 x.box.lo.x, .int .i64 x.box.lo.y, .int .i64 x.box.lo.z, .int .i64 x.box.hi.x, .int .i64 x.box.hi.y, .int .i64 x.box.hi.z, .int .i64 x.at_.x, .int .i64 x.at_.y, .int .i64 x.at_.z, .int .i64 x.turn, .int .i64 x.cell, .int .i64 x.size], .int .u8 later, .int .u8 site, .agg #[.int .i64 p.x, .int .i64 p.y, .int .i64 p.z]] w fun e w' => e = .returned (.bool true) ∧ Ext w w' := by
  have hm := mixed
  have hG := near_old
  have HS := Lib.hid hs
  have HL := Lib.hid hL
  have HW := Lib.hid hw
  have HFW := Lib.hid (fun (w' : World) (hx : Ext w w') => few_any A c ls w' (HS.out.ext hx))
  have B0 := (Arr.new w 30 [.int .i64 x.st.tick, .int .i64 x.st.clock, .int .i64 x.st.site, .int .i64 x.st.seq, .int .i64 x.kind, .int .i64 x.box.lo.x, .int .i64 x.box.lo.y, .int .i64 x.box.lo.z, .int .i64 x.box.hi.x, .int .i64 x.box.hi.y, .int .i64 x.box.hi.z, .int .i64 x.at_.x, .int .i64 x.at_.y, .int .i64 x.at_.z, .int .i64 x.turn, .int .i64 x.cell, .int .i64 x.size]).alloc (.cells #[.int .i64 p.x, .int .i64 p.y, .int .i64 p.z] 26)
  have D0 := Arr.new1 w (.cells #[.int .i64 x.st.tick, .int .i64 x.st.clock, .int .i64 x.st.site, .int .i64 x.st.seq, .int .i64 x.kind, .int .i64 x.box.lo.x, .int .i64 x.box.lo.y, .int .i64 x.box.lo.z, .int .i64 x.box.hi.x, .int .i64 x.box.hi.y, .int .i64 x.box.hi.z, .int .i64 x.at_.x, .int .i64 x.at_.y, .int .i64 x.at_.z, .int .i64 x.turn, .int .i64 x.cell, .int .i64 x.size] 30) 26 [.int .i64 p.x, .int .i64 p.y, .int .i64 p.z]
  have hx0 : Ext w ((w.alloc (.cells #[.int .i64 x.st.tick, .int .i64 x.st.clock, .int .i64 x.st.site, .int .i64 x.st.seq, .int .i64 x.kind, .int .i64 x.box.lo.x, .int .i64 x.box.lo.y, .int .i64 x.box.lo.z, .int .i64 x.box.hi.x, .int .i64 x.box.hi.y, .int .i64 x.box.hi.z, .int .i64 x.at_.x, .int .i64 x.at_.y, .int .i64 x.at_.z, .int .i64 x.turn, .int .i64 x.cell, .int .i64 x.size] 30)).alloc (.cells #[.int .i64 p.x, .int .i64 p.y, .int .i64 p.z] 26)) := ((Ext.refl w).alloc _).alloc _
  have X0 := Lib.hid hx0
  have HB0 := Lib.hid B0
  have HD0 := Lib.hid D0
  clear hs hL hw B0 D0 hx0
  cases hf : decide (ls.length ≤ 60) && validR ls
  · rw [hf] at HFW
    clear hf
    go_enter Tryd.func6, Tryd.ntmps6
    go_wp2_with fail
    refine (HFW.out _ X0.out).mono ?_
    rintro e w1 ⟨rfl, x1⟩
    go_wp2_with fail
    refine (sanity_any _ (HL.out.ext (X0.out.trans x1))).mono ?_
    rintro e w2 ⟨rfl, x2⟩
    go_wp2
    go_ret
    exact ⟨rfl, (X0.out.trans x1).trans x2⟩
  · rw [hf] at HFW
    obtain ⟨hv, hb⟩ := few_VT hf
    have HV := Lib.hid hv
    clear hf hv
    go_enter Tryd.func6, Tryd.ntmps6
    go_wp2_with fail
    refine (HFW.out _ X0.out).mono ?_
    rintro e w1 ⟨rfl, x1⟩
    have X1 := Lib.hid (X0.out.trans x1)
    have B1 := Arr.ext HB0.out x1
    have HD1 := Lib.hid (Arr.ext HD0.out x1)
    clear x1
    go_wp2_with (first | (refine wpList_load_blk 30 (.tmp 6) rfl rfl B1 rfl _ Tryd.underlying30 rfl (by kernel_rfl) ?_) | (refine wpList_load_blk 30 (.tmp 6) rfl rfl (B1.alloc _) rfl _ Tryd.underlying30 rfl (by kernel_rfl) ?_) | (refine wpList_load_blk 30 (.tmp 6) rfl rfl ((B1.alloc _).alloc _) rfl _ Tryd.underlying30 rfl (by kernel_rfl) ?_))
    refine (takeP_at HV.out HW.out (by omega) A c w1 (HS.out.ext X1.out) (HL.out.ext X1.out)).mono ?_
    rintro e w2 ⟨A2, c2, rfl, s2, x2⟩
    have X2 := Lib.hid (X1.out.trans x2)
    have B2 := Arr.ext B1 x2
    have HB2 := Lib.hid B2
    have HD2 := Lib.hid (Arr.ext HD1.out x2)
    have S2 := Lib.hid s2
    clear x2 B1 B2 s2
    by_cases he : (takeR ls x).2 = 0
    · have HE := Lib.hid he
      have HTV := Lib.hid (take_VT (x := x) HV.out)
      have htl := take_len1 ls x
      have hlg := lock_good (take_ok he).1
      have ht0 := hlg.2.2
      have ht1 := hlg.2.1
      have ht2 : x.size ≤ 4000 := hlg.1.til.2
      have hsite : 1 ≤ x.st.site ∧ x.st.site ≤ 8 := hlg.1.site
      have HNH := Lib.hid (fun (hp : ¬ (inP p x.box = true ∧ x.st.tick + later ≤ x.size)) => take_else HV.out he (show x.st.tick ≤ x.st.tick + later by omega) hp)
      have HYH := Lib.hid (fun (hp : inP p x.box = true) (ht : x.st.tick + later ≤ x.size) => take_blocks HV.out he hp ht)
      rw [he]
      generalize (takeR ls x).1 = ml at S2 HTV htl HNH HYH ⊢
      clear he hlg
      have cB := HB2.out.cell
      have lB := HB2.out.lt
      have w1a : IntKind.i64.wrap site = site := IntWalk.i64_in _ (by omega)
      have w2a : IntKind.i64.wrap later = later := IntWalk.i64_in _ (by omega)
      have w3a : site.tmod 8 = site % 8 := Int.tmod_eq_emod_of_nonneg h2.1
      have w4a : IntKind.i64.wrap (site % 8 + 1) = site % 8 + 1 := IntWalk.i64_in _ (by omega)
      have w5a : IntKind.i64.wrap (x.st.tick + later) = x.st.tick + later := IntWalk.i64_in _ (by omega)
      go_wp2_with fail
      refine wp_region_near (by assumption) (by kernel_rfl) ?_
      repeat (go_big_quiet_step (fail))
      refine wpQuiet_nil ?_
      intro w1 hw1
      have hy := Ext.of_near hw1
      clear hw1
      clear w1a w2a w3a w4a w5a cB lB
      have X3 := Lib.hid (X2.out.trans hy)
      have B3 := HB2.out.ext hy
      have D3 := HD2.out.ext hy
      have S3 := S2.out.ext hy
      have T3 := HS.out.ext X3.out
      clear hy
      generalize hoth : site % 8 + 1 = oth
      generalize htk : x.st.tick + later = tk at HNH HYH ⊢
      clear hoth htk
      go_wp2_with (first | (refine wpList_load_blk 26 (.tmp 9) rfl rfl D3 rfl _ Tryd.underlying26 rfl (by kernel_rfl) ?_) | (refine wpList_load_blk 26 (.tmp 9) rfl rfl (D3.alloc _) rfl _ Tryd.underlying26 rfl (by kernel_rfl) ?_) | (refine wpList_load_blk 26 (.tmp 9) rfl rfl ((D3.alloc _).alloc _) rfl _ Tryd.underlying26 rfl (by kernel_rfl) ?_) | (refine wpList_load_part 28 (.tmp 44) rfl rfl B3 5 [.int .i64 x.box.lo.x, .int .i64 x.box.lo.y, .int .i64 x.box.lo.z, .int .i64 x.box.hi.x, .int .i64 x.box.hi.y, .int .i64 x.box.hi.z] rfl rfl _ Tryd.underlying28 rfl (by kernel_rfl) ?_) | (refine wpList_load_part 28 (.tmp 44) rfl rfl (B3.alloc _) 5 [.int .i64 x.box.lo.x, .int .i64 x.box.lo.y, .int .i64 x.box.lo.z, .int .i64 x.box.hi.x, .int .i64 x.box.hi.y, .int .i64 x.box.hi.z] rfl rfl _ Tryd.underlying28 rfl (by kernel_rfl) ?_))
      refine (refIn_any p x.box _).mono ?_
      rintro e w4 ⟨rfl, xx⟩
      have X3 := Lib.hid (X3.out.trans xx)
      have B3 := B3.ext xx
      have D3 := D3.ext xx
      have S3 := S3.ext xx
      have T3 := T3.ext xx
      clear xx
      have cB3 := B3.cell
      have lB3 := B3.lt
      by_cases hH : inP p x.box = true ∧ tk ≤ x.size
      · have HO := Lib.hid (HYH.out hH.1 hH.2)
        have hle : decide (tk ≤ x.size) = true := decide_eq_true hH.2
        rw [hH.1]
        clear hH HNH HYH
        have HB1 := Lib.hid (show blocksL ml x.st.site tk p = false from by rw [blocks_def, HO.out]; simp)
        by_cases hoo : oth = x.st.site
        · have hb9 : (oth != x.st.site) = false := by simp [hoo]
          clear hoo
          go_wp2_with (first | (refine wpList_load_blk 26 (.tmp 9) rfl rfl D3 rfl _ Tryd.underlying26 rfl (by kernel_rfl) ?_) | (refine wpList_load_blk 26 (.tmp 9) rfl rfl (D3.alloc _) rfl _ Tryd.underlying26 rfl (by kernel_rfl) ?_) | (refine wpList_load_blk 26 (.tmp 9) rfl rfl ((D3.alloc _).alloc _) rfl _ Tryd.underlying26 rfl (by kernel_rfl) ?_))
          refine (blocks_at HB1.out (by omega) A2 c2 _ S3).mono ?_
          rintro e w5 ⟨rfl, xx⟩
          have X3 := Lib.hid (X3.out.trans xx)
          have B3 := B3.ext xx
          have D3 := D3.ext xx
          have S3 := S3.ext xx
          have T3 := T3.ext xx
          clear xx
          have cB3 := B3.cell
          have lB3 := B3.lt
          go_wp2_with fail
          have cD3 := D3.cell
          have lD3 := D3.lt
          have HNS := Lib.hid (fun (w' : World) (hx : Ext _ w') => sanity_any w' (HL.out.ext (X3.out.trans hx)))
          refine wp_region_near (by assumption) (by kernel_rfl) ?_
          repeat (go_big_quiet_step ((first | (go_at_call 10; exact near_call (HNS.out _ (Ext.of_near ⟨⟨_, _⟩, rfl⟩))))))
          refine wpQuiet_nil ?_
          intro w1 hw1
          have hy := Ext.of_near hw1
          clear hw1
          go_wp2
          go_ret
          exact ⟨ret_bool (by simp), X3.out.trans hy⟩
        · have hb9 : (oth != x.st.site) = true := by simpa using hoo
          have HB9 := Lib.hid (show blocksL ml oth tk p = true from by rw [blocks_def, HO.out]; simp; exact ⟨by omega, fun h => hoo h.symm⟩)
          clear hoo
          go_wp2_with (first | (refine wpList_load_blk 26 (.tmp 9) rfl rfl D3 rfl _ Tryd.underlying26 rfl (by kernel_rfl) ?_) | (refine wpList_load_blk 26 (.tmp 9) rfl rfl (D3.alloc _) rfl _ Tryd.underlying26 rfl (by kernel_rfl) ?_) | (refine wpList_load_blk 26 (.tmp 9) rfl rfl ((D3.alloc _).alloc _) rfl _ Tryd.underlying26 rfl (by kernel_rfl) ?_))
          refine (blocks_at HB9.out (by omega) A2 c2 _ S3).mono ?_
          rintro e w6 ⟨rfl, xx⟩
          have X3 := Lib.hid (X3.out.trans xx)
          have B3 := B3.ext xx
          have D3 := D3.ext xx
          have S3 := S3.ext xx
          have T3 := T3.ext xx
          clear xx
          have cB3 := B3.cell
          have lB3 := B3.lt
          go_wp2_with (first | (refine wpList_load_blk 26 (.tmp 9) rfl rfl D3 rfl _ Tryd.underlying26 rfl (by kernel_rfl) ?_) | (refine wpList_load_blk 26 (.tmp 9) rfl rfl (D3.alloc _) rfl _ Tryd.underlying26 rfl (by kernel_rfl) ?_) | (refine wpList_load_blk 26 (.tmp 9) rfl rfl ((D3.alloc _).alloc _) rfl _ Tryd.underlying26 rfl (by kernel_rfl) ?_))
          refine (blocks_at HB1.out (by omega) A2 c2 _ S3).mono ?_
          rintro e w7 ⟨rfl, xx⟩
          have X3 := Lib.hid (X3.out.trans xx)
          have B3 := B3.ext xx
          have D3 := D3.ext xx
          have S3 := S3.ext xx
          have T3 := T3.ext xx
          clear xx
          have cB3 := B3.cell
          have lB3 := B3.lt
          go_wp2_with fail
          have cD3 := D3.cell
          have lD3 := D3.lt
          have HNS := Lib.hid (fun (w' : World) (hx : Ext _ w') => sanity_any w' (HL.out.ext (X3.out.trans hx)))
          refine wp_region_near (by assumption) (by kernel_rfl) ?_
          repeat (go_big_quiet_step ((first | (go_at_call 10; exact near_call (HNS.out _ (Ext.of_near ⟨⟨_, _⟩, rfl⟩))))))
          refine wpQuiet_nil ?_
          intro w1 hw1
          have hy := Ext.of_near hw1
          clear hw1
          go_wp2
          go_ret
          exact ⟨ret_bool (by simp), X3.out.trans hy⟩
      · have HOO := Lib.hid (HNH.out hH)
        obtain ⟨o, ho⟩ : ∃ o, o = ownerL ls tk p := ⟨_, rfl⟩
        have HO2 := Lib.hid ho.symm
        have HO := Lib.hid (HOO.out.trans ho.symm)
        clear ho HOO HNH HYH
        obtain ⟨bb, hbb⟩ : ∃ bb, bb = (decide (o ≠ 0) && decide (o ≠ x.st.site)) := ⟨_, rfl⟩
        have HBM := Lib.hid (show blocksL ml x.st.site tk p = bb from by rw [blocks_def, HO.out, hbb])
        have HBL := Lib.hid (show blocksL ls x.st.site tk p = bb from by rw [blocks_def, HO2.out, hbb])
        clear hbb
        cases hin : inP p x.box
        · clear hH hin
          cases bb
          · go_wp2_with (first | (refine wpList_load_blk 26 (.tmp 9) rfl rfl D3 rfl _ Tryd.underlying26 rfl (by kernel_rfl) ?_) | (refine wpList_load_blk 26 (.tmp 9) rfl rfl (D3.alloc _) rfl _ Tryd.underlying26 rfl (by kernel_rfl) ?_) | (refine wpList_load_blk 26 (.tmp 9) rfl rfl ((D3.alloc _).alloc _) rfl _ Tryd.underlying26 rfl (by kernel_rfl) ?_))
            refine (blocks_at HBM.out (by omega) A2 c2 _ S3).mono ?_
            rintro e w8 ⟨rfl, xx⟩
            have X3 := Lib.hid (X3.out.trans xx)
            have B3 := B3.ext xx
            have D3 := D3.ext xx
            have S3 := S3.ext xx
            have T3 := T3.ext xx
            clear xx
            have cB3 := B3.cell
            have lB3 := B3.lt
            go_wp2_with fail
            have cD3 := D3.cell
            have lD3 := D3.lt
            have HNS := Lib.hid (fun (w' : World) (hx : Ext _ w') => sanity_any w' (HL.out.ext (X3.out.trans hx)))
            have HNM := Lib.hid (fun (w' : World) (hx : Ext _ w') => owner_at (now := tk) (p := p) HO.out (by omega) A2 c2 w' (S3.ext hx))
            have HNL := Lib.hid (fun (w' : World) (hx : Ext _ w') => owner_at (now := tk) (p := p) HO2.out (by omega) A c w' (T3.ext hx))
            refine wp_region_near (by assumption) (by kernel_rfl) ?_
            repeat (go_big_quiet_step ((first | (go_at_call 10; exact near_call (HNS.out _ (Ext.of_near ⟨⟨_, _⟩, rfl⟩))) | (go_at_call 20; first | with_reducible exact near_call (HNM.out _ (Ext.of_near ⟨⟨_, _⟩, rfl⟩)) | with_reducible exact near_call (HNL.out _ (Ext.of_near ⟨⟨_, _⟩, rfl⟩))))))
            refine wpQuiet_nil ?_
            intro w1 hw1
            have hy := Ext.of_near hw1
            clear hw1
            go_wp2
            go_ret
            exact ⟨ret_bool (by simp), X3.out.trans hy⟩
          · go_wp2_with (first | (refine wpList_load_blk 26 (.tmp 9) rfl rfl D3 rfl _ Tryd.underlying26 rfl (by kernel_rfl) ?_) | (refine wpList_load_blk 26 (.tmp 9) rfl rfl (D3.alloc _) rfl _ Tryd.underlying26 rfl (by kernel_rfl) ?_) | (refine wpList_load_blk 26 (.tmp 9) rfl rfl ((D3.alloc _).alloc _) rfl _ Tryd.underlying26 rfl (by kernel_rfl) ?_))
            refine (blocks_at HBM.out (by omega) A2 c2 _ S3).mono ?_
            rintro e w9 ⟨rfl, xx⟩
            have X3 := Lib.hid (X3.out.trans xx)
            have B3 := B3.ext xx
            have D3 := D3.ext xx
            have S3 := S3.ext xx
            have T3 := T3.ext xx
            clear xx
            have cB3 := B3.cell
            have lB3 := B3.lt
            go_wp2_with (first | (refine wpList_load_blk 26 (.tmp 9) rfl rfl D3 rfl _ Tryd.underlying26 rfl (by kernel_rfl) ?_) | (refine wpList_load_blk 26 (.tmp 9) rfl rfl (D3.alloc _) rfl _ Tryd.underlying26 rfl (by kernel_rfl) ?_) | (refine wpList_load_blk 26 (.tmp 9) rfl rfl ((D3.alloc _).alloc _) rfl _ Tryd.underlying26 rfl (by kernel_rfl) ?_))
            refine (blocks_at HBL.out (by omega) A c _ T3).mono ?_
            rintro e w10 ⟨rfl, xx⟩
            have X3 := Lib.hid (X3.out.trans xx)
            have B3 := B3.ext xx
            have D3 := D3.ext xx
            have S3 := S3.ext xx
            have T3 := T3.ext xx
            clear xx
            have cB3 := B3.cell
            have lB3 := B3.lt
            go_wp2_with fail
            have cD3 := D3.cell
            have lD3 := D3.lt
            have HNS := Lib.hid (fun (w' : World) (hx : Ext _ w') => sanity_any w' (HL.out.ext (X3.out.trans hx)))
            have HNM := Lib.hid (fun (w' : World) (hx : Ext _ w') => owner_at (now := tk) (p := p) HO.out (by omega) A2 c2 w' (S3.ext hx))
            have HNL := Lib.hid (fun (w' : World) (hx : Ext _ w') => owner_at (now := tk) (p := p) HO2.out (by omega) A c w' (T3.ext hx))
            refine wp_region_near (by assumption) (by kernel_rfl) ?_
            repeat (go_big_quiet_step ((first | (go_at_call 10; exact near_call (HNS.out _ (Ext.of_near ⟨⟨_, _⟩, rfl⟩))) | (go_at_call 20; first | with_reducible exact near_call (HNM.out _ (Ext.of_near ⟨⟨_, _⟩, rfl⟩)) | with_reducible exact near_call (HNL.out _ (Ext.of_near ⟨⟨_, _⟩, rfl⟩))))))
            refine wpQuiet_nil ?_
            intro w1 hw1
            have hy := Ext.of_near hw1
            clear hw1
            go_wp2
            go_ret
            exact ⟨ret_bool (by simp), X3.out.trans hy⟩
        · have hle : decide (tk ≤ x.size) = false := decide_eq_false (fun h => hH ⟨hin, h⟩)
          clear hH hin
          by_cases hoo : oth = x.st.site
          · have hb9 : (oth != x.st.site) = false := by simp [hoo]
            clear hoo
            cases bb
            · go_wp2_with (first | (refine wpList_load_blk 26 (.tmp 9) rfl rfl D3 rfl _ Tryd.underlying26 rfl (by kernel_rfl) ?_) | (refine wpList_load_blk 26 (.tmp 9) rfl rfl (D3.alloc _) rfl _ Tryd.underlying26 rfl (by kernel_rfl) ?_) | (refine wpList_load_blk 26 (.tmp 9) rfl rfl ((D3.alloc _).alloc _) rfl _ Tryd.underlying26 rfl (by kernel_rfl) ?_))
              refine (blocks_at HBM.out (by omega) A2 c2 _ S3).mono ?_
              rintro e w11 ⟨rfl, xx⟩
              have X3 := Lib.hid (X3.out.trans xx)
              have B3 := B3.ext xx
              have D3 := D3.ext xx
              have S3 := S3.ext xx
              have T3 := T3.ext xx
              clear xx
              have cB3 := B3.cell
              have lB3 := B3.lt
              go_wp2_with fail
              have cD3 := D3.cell
              have lD3 := D3.lt
              have HNS := Lib.hid (fun (w' : World) (hx : Ext _ w') => sanity_any w' (HL.out.ext (X3.out.trans hx)))
              have HNM := Lib.hid (fun (w' : World) (hx : Ext _ w') => owner_at (now := tk) (p := p) HO.out (by omega) A2 c2 w' (S3.ext hx))
              have HNL := Lib.hid (fun (w' : World) (hx : Ext _ w') => owner_at (now := tk) (p := p) HO2.out (by omega) A c w' (T3.ext hx))
              refine wp_region_near (by assumption) (by kernel_rfl) ?_
              repeat (go_big_quiet_step ((first | (go_at_call 10; exact near_call (HNS.out _ (Ext.of_near ⟨⟨_, _⟩, rfl⟩))) | (go_at_call 20; first | with_reducible exact near_call (HNM.out _ (Ext.of_near ⟨⟨_, _⟩, rfl⟩)) | with_reducible exact near_call (HNL.out _ (Ext.of_near ⟨⟨_, _⟩, rfl⟩))))))
              refine wpQuiet_nil ?_
              intro w1 hw1
              have hy := Ext.of_near hw1
              clear hw1
              go_wp2
              go_ret
              exact ⟨ret_bool (by simp), X3.out.trans hy⟩
            · go_wp2_with (first | (refine wpList_load_blk 26 (.tmp 9) rfl rfl D3 rfl _ Tryd.underlying26 rfl (by kernel_rfl) ?_) | (refine wpList_load_blk 26 (.tmp 9) rfl rfl (D3.alloc _) rfl _ Tryd.underlying26 rfl (by kernel_rfl) ?_) | (refine wpList_load_blk 26 (.tmp 9) rfl rfl ((D3.alloc _).alloc _) rfl _ Tryd.underlying26 rfl (by kernel_rfl) ?_))
              refine (blocks_at HBM.out (by omega) A2 c2 _ S3).mono ?_
              rintro e w12 ⟨rfl, xx⟩
              have X3 := Lib.hid (X3.out.trans xx)
              have B3 := B3.ext xx
              have D3 := D3.ext xx
              have S3 := S3.ext xx
              have T3 := T3.ext xx
              clear xx
              have cB3 := B3.cell
              have lB3 := B3.lt
              go_wp2_with (first | (refine wpList_load_blk 26 (.tmp 9) rfl rfl D3 rfl _ Tryd.underlying26 rfl (by kernel_rfl) ?_) | (refine wpList_load_blk 26 (.tmp 9) rfl rfl (D3.alloc _) rfl _ Tryd.underlying26 rfl (by kernel_rfl) ?_) | (refine wpList_load_blk 26 (.tmp 9) rfl rfl ((D3.alloc _).alloc _) rfl _ Tryd.underlying26 rfl (by kernel_rfl) ?_))
              refine (blocks_at HBL.out (by omega) A c _ T3).mono ?_
              rintro e w13 ⟨rfl, xx⟩
              have X3 := Lib.hid (X3.out.trans xx)
              have B3 := B3.ext xx
              have D3 := D3.ext xx
              have S3 := S3.ext xx
              have T3 := T3.ext xx
              clear xx
              have cB3 := B3.cell
              have lB3 := B3.lt
              go_wp2_with fail
              have cD3 := D3.cell
              have lD3 := D3.lt
              have HNS := Lib.hid (fun (w' : World) (hx : Ext _ w') => sanity_any w' (HL.out.ext (X3.out.trans hx)))
              have HNM := Lib.hid (fun (w' : World) (hx : Ext _ w') => owner_at (now := tk) (p := p) HO.out (by omega) A2 c2 w' (S3.ext hx))
              have HNL := Lib.hid (fun (w' : World) (hx : Ext _ w') => owner_at (now := tk) (p := p) HO2.out (by omega) A c w' (T3.ext hx))
              refine wp_region_near (by assumption) (by kernel_rfl) ?_
              repeat (go_big_quiet_step ((first | (go_at_call 10; exact near_call (HNS.out _ (Ext.of_near ⟨⟨_, _⟩, rfl⟩))) | (go_at_call 20; first | with_reducible exact near_call (HNM.out _ (Ext.of_near ⟨⟨_, _⟩, rfl⟩)) | with_reducible exact near_call (HNL.out _ (Ext.of_near ⟨⟨_, _⟩, rfl⟩))))))
              refine wpQuiet_nil ?_
              intro w1 hw1
              have hy := Ext.of_near hw1
              clear hw1
              go_wp2
              go_ret
              exact ⟨ret_bool (by simp), X3.out.trans hy⟩
          · have hb9 : (oth != x.st.site) = true := by simpa using hoo
            clear hoo
            cases bb
            · go_wp2_with (first | (refine wpList_load_blk 26 (.tmp 9) rfl rfl D3 rfl _ Tryd.underlying26 rfl (by kernel_rfl) ?_) | (refine wpList_load_blk 26 (.tmp 9) rfl rfl (D3.alloc _) rfl _ Tryd.underlying26 rfl (by kernel_rfl) ?_) | (refine wpList_load_blk 26 (.tmp 9) rfl rfl ((D3.alloc _).alloc _) rfl _ Tryd.underlying26 rfl (by kernel_rfl) ?_))
              refine (blocks_at HBM.out (by omega) A2 c2 _ S3).mono ?_
              rintro e w14 ⟨rfl, xx⟩
              have X3 := Lib.hid (X3.out.trans xx)
              have B3 := B3.ext xx
              have D3 := D3.ext xx
              have S3 := S3.ext xx
              have T3 := T3.ext xx
              clear xx
              have cB3 := B3.cell
              have lB3 := B3.lt
              go_wp2_with fail
              have cD3 := D3.cell
              have lD3 := D3.lt
              have HNS := Lib.hid (fun (w' : World) (hx : Ext _ w') => sanity_any w' (HL.out.ext (X3.out.trans hx)))
              have HNM := Lib.hid (fun (w' : World) (hx : Ext _ w') => owner_at (now := tk) (p := p) HO.out (by omega) A2 c2 w' (S3.ext hx))
              have HNL := Lib.hid (fun (w' : World) (hx : Ext _ w') => owner_at (now := tk) (p := p) HO2.out (by omega) A c w' (T3.ext hx))
              refine wp_region_near (by assumption) (by kernel_rfl) ?_
              repeat (go_big_quiet_step ((first | (go_at_call 10; exact near_call (HNS.out _ (Ext.of_near ⟨⟨_, _⟩, rfl⟩))) | (go_at_call 20; first | with_reducible exact near_call (HNM.out _ (Ext.of_near ⟨⟨_, _⟩, rfl⟩)) | with_reducible exact near_call (HNL.out _ (Ext.of_near ⟨⟨_, _⟩, rfl⟩))))))
              refine wpQuiet_nil ?_
              intro w1 hw1
              have hy := Ext.of_near hw1
              clear hw1
              go_wp2
              go_ret
              exact ⟨ret_bool (by simp), X3.out.trans hy⟩
            · go_wp2_with (first | (refine wpList_load_blk 26 (.tmp 9) rfl rfl D3 rfl _ Tryd.underlying26 rfl (by kernel_rfl) ?_) | (refine wpList_load_blk 26 (.tmp 9) rfl rfl (D3.alloc _) rfl _ Tryd.underlying26 rfl (by kernel_rfl) ?_) | (refine wpList_load_blk 26 (.tmp 9) rfl rfl ((D3.alloc _).alloc _) rfl _ Tryd.underlying26 rfl (by kernel_rfl) ?_))
              refine (blocks_at HBM.out (by omega) A2 c2 _ S3).mono ?_
              rintro e w15 ⟨rfl, xx⟩
              have X3 := Lib.hid (X3.out.trans xx)
              have B3 := B3.ext xx
              have D3 := D3.ext xx
              have S3 := S3.ext xx
              have T3 := T3.ext xx
              clear xx
              have cB3 := B3.cell
              have lB3 := B3.lt
              go_wp2_with (first | (refine wpList_load_blk 26 (.tmp 9) rfl rfl D3 rfl _ Tryd.underlying26 rfl (by kernel_rfl) ?_) | (refine wpList_load_blk 26 (.tmp 9) rfl rfl (D3.alloc _) rfl _ Tryd.underlying26 rfl (by kernel_rfl) ?_) | (refine wpList_load_blk 26 (.tmp 9) rfl rfl ((D3.alloc _).alloc _) rfl _ Tryd.underlying26 rfl (by kernel_rfl) ?_))
              refine (blocks_at HBL.out (by omega) A c _ T3).mono ?_
              rintro e w16 ⟨rfl, xx⟩
              have X3 := Lib.hid (X3.out.trans xx)
              have B3 := B3.ext xx
              have D3 := D3.ext xx
              have S3 := S3.ext xx
              have T3 := T3.ext xx
              clear xx
              have cB3 := B3.cell
              have lB3 := B3.lt
              go_wp2_with fail
              have cD3 := D3.cell
              have lD3 := D3.lt
              have HNS := Lib.hid (fun (w' : World) (hx : Ext _ w') => sanity_any w' (HL.out.ext (X3.out.trans hx)))
              have HNM := Lib.hid (fun (w' : World) (hx : Ext _ w') => owner_at (now := tk) (p := p) HO.out (by omega) A2 c2 w' (S3.ext hx))
              have HNL := Lib.hid (fun (w' : World) (hx : Ext _ w') => owner_at (now := tk) (p := p) HO2.out (by omega) A c w' (T3.ext hx))
              refine wp_region_near (by assumption) (by kernel_rfl) ?_
              repeat (go_big_quiet_step ((first | (go_at_call 10; exact near_call (HNS.out _ (Ext.of_near ⟨⟨_, _⟩, rfl⟩))) | (go_at_call 20; first | with_reducible exact near_call (HNM.out _ (Ext.of_near ⟨⟨_, _⟩, rfl⟩)) | with_reducible exact near_call (HNL.out _ (Ext.of_near ⟨⟨_, _⟩, rfl⟩))))))
              refine wpQuiet_nil ?_
              intro w1 hw1
              have hy := Ext.of_near hw1
              clear hw1
              go_wp2
              go_ret
              exact ⟨ret_bool (by simp), X3.out.trans hy⟩
    · have hne : ((takeR ls x).2 == 0) = false := by simpa using he
      clear he
      generalize (takeR ls x).2 = er at hne ⊢
      go_wp2_with fail
      refine (sanity_any _ (HL.out.ext X2.out)).mono ?_
      rintro e w3 ⟨rfl, x3⟩
      go_wp2
      go_ret
      exact ⟨rfl, X2.out.trans x3⟩
end Go.Proofs.YtjceebpafnnffaaDoor

namespace Go.Proofs.YtjceebpafnnffaaDoor
open Go Go.RowKit

section
variable {P : Program}
/-- The law by a table, guards let in. -/
theorem wp_region_tabg {G : Type} {Q : Exit → Act → World → Prop} {id : Nat} {a : Act} {w : World} {l : List Oper} (V : G → Nat → Value) (R : World → Array Bool → G → World → Prop) (g0 : G) (hm : P.follows .mixedOrders = true) (hs : Slots l.toArray) (hb : Back l.toArray)
    (h0 : R w (Array.replicate l.length false) g0 w.drew)
    (hstep : ∀ listed g w1 i o, l[i]? = some o → listed.getD i true = false → (∀ e, e ∈ o.after → Region.binds .any e = true → listed.getD e.on false = true) → R w listed g w1 →
      ∀ K : Act → World → Prop, (∀ g' w', R w (listed.setIfInBounds i true) g' w' → (∀ j, j < l.length → listed.getD j true = true → V g' j = V g j) → K ((fill l.toArray (V g) listed a).put o.dst (V g' i)) w') →
        if Region.wanted o (yielded l.toArray (fill l.toArray (V g) listed a).tmps) = true then o.wp P (fill l.toArray (V g) listed a) w1 K Q else K ((fill l.toArray (V g) listed a).put o.dst undef) w1)
    (hend : ∀ listed g w1, (∀ i, i < l.length → listed.getD i true = true) → R w listed g w1 → Q .normal (fill l.toArray (V g) listed a) w1) : (Code.region id l.toArray true).wp P Q a w := by
  refine wp_region_inv (fun listed b w1 => ∃ g, b = fill l.toArray (V g) listed a ∧ R w listed g w1) hm ⟨g0, ?_, h0⟩ ?_ ?_
  · have : ∀ n, fillN l.toArray (V g0) (Array.replicate l.length false) a n = a ∨ l.length < n := by
      intro n
      induction n with
      | zero => exact .inl rfl
      | succ n ih =>
        by_cases hn : l.length < n + 1
        · exact .inr hn
        · rcases ih with ih | ih
          · refine .inl ?_
            unfold fillN
            rw [if_neg (by simp [Array.getD]; omega), ih]
          · omega
    rcases this l.toArray.size with h | h
    · exact h.symm
    · simp at h
  · rintro listed b w1 i ⟨g, rfl, hR⟩ hi
    obtain ⟨hun, o, ho, hdeps⟩ := mem_ready.1 hi
    have ho' : l[i]? = some o := by simpa using ho
    have hi2 : i < l.toArray.size := (Array.getElem?_eq_some_iff.1 ho).1
    refine wpOp_step ho fun K hK => ?_
    refine hstep listed g w1 i o ho' hun hdeps hR K fun g' w' hR' hV => ?_
    refine hK _ _ ⟨g', ?_, hR'⟩
    have hd : dstOf l.toArray i = o.dst := by simp [dstOf, ho']
    rw [← hd, fill_congr (V' := V g') (fun j hl hj => (hV j (by simpa using hj) hl).symm), fill_put hs hi2 hun]
  · rintro listed b w1 ⟨g, rfl, hR⟩ hr
    exact hend listed g w1 (fun i hi => all_done hb hr i (by simpa using hi)) hR

/-- Operation o waits for operation j. -/
def waits (o : Oper) (j : Nat) : Bool := o.after.toList.any fun e => e.on == j && Region.binds .any e
theorem waits_spec {o : Oper} {j : Nat} (h : waits o j = true) : ∃ e, e ∈ o.after ∧ e.on = j ∧ Region.binds .any e = true := by
  unfold waits at h
  rw [List.any_eq_true] at h
  obtain ⟨e, he, h⟩ := h
  simp only [Bool.and_eq_true, beq_iff_eq] at h
  exact ⟨e, by simpa using he, h.1, h.2⟩
/-- The law: Good i says what operation i yields; it stays true while memory grows. -/
theorem wp_region_rel {Q : Exit → Act → World → Prop} {id : Nat} {a : Act} {w : World} {l : List Oper} (Good : Nat → Value → World → Prop) (hm : P.follows .mixedOrders = true) (hs : slotsB l.toArray = true) (hb : backB l.toArray = true) (hfit : ((List.range l.length).all fun j => match dstOf l.toArray j with | some d => decide (d < a.tmps.size) | none => true) = true)
    (hst : ∀ i v w1 w2, Ext w1 w2 → Good i v w1 → Good i v w2)
    (hstep : ∀ (i : Nat) (o : Oper), l[i]? = some o → ∀ (b : Act) (w1 : World), Ext w w1 → (∀ d : Nat, missB l.toArray d = true → b.tmps[d]? = a.tmps[d]?) →
      (∀ j, waits o j = true → ∃ v, Good j v w1 ∧ ∀ d, dstOf l.toArray j = some d → b.tmps[d]? = some v) →
      ∀ K : Act → World → Prop, (∀ v w', Ext w1 w' → Good i v w' → K (b.put o.dst v) w') → if Region.wanted o (yielded l.toArray b.tmps) = true then o.wp P b w1 K Q else K (b.put o.dst undef) w1)
    (hend : ∀ (V : Nat → Value) (w1 : World), Ext w w1 → (∀ i, i < l.length → Good i (V i) w1) → Q .normal (fillAllN l.toArray V a l.length) w1) : (Code.region id l.toArray true).wp P Q a w := by
  have hS := slotsB_spec hs
  have hB := backB_spec hb
  refine wp_region_tabg (G := Nat → Value) (fun g => g) (fun w listed g w1 => Ext w w1 ∧ ∀ i, i < l.length → listed.getD i true = true → Good i (g i) w1) (fun _ => undef) hm hS hB ?_ ?_ ?_
  · refine ⟨(Ext.refl _).drew, fun i hi h => ?_⟩
    have : (Array.replicate l.length false).getD i true = false := by simp [Array.getD, hi]
    rw [this] at h
    cases h
  · intro listed g w1 i o ho hun hdep hR K hK
    have hil : i < l.length := (List.getElem?_eq_some_iff.1 ho).1
    refine hstep i o ho (fill l.toArray g listed a) w1 hR.1 (fun d hd => fill_miss (fun i hi _ => missB_spec hd i hi)) (fun j hj => ?_) K (fun v w' hx hg => ?_)
    · obtain ⟨e, he, rfl, hbd⟩ := waits_spec hj
      have h1 := getD_up (hdep e he hbd)
      have h2 : e.on < l.length := by have := hB i o (by simpa using ho) e he; omega
      refine ⟨g e.on, hR.2 _ h2 h1, fun d hd => fill_hit hS (by simpa using h2) h1 hd ?_⟩
      rw [List.all_eq_true] at hfit
      have h3 := hfit e.on (List.mem_range.2 h2)
      rw [hd] at h3
      simpa using h3
    · have h := hK (fun k => if k = i then v else g k) w' ⟨hR.1.trans hx, fun j hj hl => ?_⟩ (fun j hj hl => ?_)
      · simpa using h
      · by_cases hji : j = i
        · subst hji; simpa using hg
        · simp only [if_neg hji]
          rw [getD_set_ne true (Ne.symm hji)] at hl
          exact hst _ _ _ _ hx (hR.2 j hj hl)
      · have hne : j ≠ i := fun e => by subst e; rw [hl] at hun; cases hun
        simp only [if_neg hne]
  · intro listed g w1 hall hR
    rw [fill_done hall]
    exact hend g w1 hR.1 (fun i hi => hR.2 i hi (hall i hi))

/- Operations, one kind each. -/
variable {o : Oper} {b : Act} {w1 : World} {K : Act → World → Prop} {Q : Exit → Act → World → Prop}
theorem eval_of {d : Nat} {v : Value} (h : b.tmps[d]? = some v) : b.eval (.tmp d) = v := by simp [Act.eval, Array.getD_eq_getD_getElem?, h]
theorem want_none {ops : Array Oper} {t : Array Value} {X Y : Prop} (hg : o.guard = none) (h : X) : if Region.wanted o (yielded ops t) = true then X else Y := by
  rw [if_pos (by simp [Region.wanted, hg])]; exact h
theorem want_yes {ops : Array Oper} {t : Array Value} {X Y : Prop} {j d : Nat} {c : Bool} (hg : o.guard = some (j, c)) (hd : dstOf ops j = some d) (ht : t[d]? = some (.bool c)) (h : X) : if Region.wanted o (yielded ops t) = true then X else Y := by
  have hd2 : (ops[j]?).bind (·.dst) = some d := hd
  rw [if_pos (by simp [Region.wanted, hg, yielded, hd2, ht])]; exact h
theorem want_no {ops : Array Oper} {t : Array Value} {X Y : Prop} {j d : Nat} {c : Bool} (hg : o.guard = some (j, c)) (hd : dstOf ops j = some d) (ht : t[d]? = some (.bool (!c)) ∨ t[d]? = some undef) (h : Y) : if Region.wanted o (yielded ops t) = true then X else Y := by
  have hd2 : (ops[j]?).bind (·.dst) = some d := hd
  rw [if_neg]
  · exact h
  · rcases ht with ht | ht
    · cases c <;> simp [Region.wanted, hg, yielded, hd2, ht]
    · simp [Region.wanted, hg, yielded, hd2, ht, undef]
theorem op_run {v : Value} {w2 : World} (hr : (execOp b.eval o).run P w1 = .ok (.value v) w2) (h : K (b.put o.dst v) w2) : o.wp P b w1 K Q := by
  unfold Oper.wp
  rw [hr]
  exact h
theorem op_move {x : Operand} {v : Value} (ho : o.op = .move x) (hx : b.eval x = v) (h : K (b.put o.dst v) w1) : o.wp P b w1 K Q :=
  op_run (by unfold execOp; simp [ho, hx]) h
theorem op_assign {x : Operand} {v : Value} (ho : o.op = .assign x) (hx : b.eval x = v) (h : K (b.put o.dst v) w1) : o.wp P b w1 K Q :=
  op_run (by unfold execOp; simp [ho, hx]) h
theorem op_loadrow {t : TypeId} {x : Operand} {bk : Nat} {tb : TypeId} {vs : List Value} (ho : o.op = .load t x) (hx : b.eval x = .pointer (some ⟨bk, 0, none⟩)) (hB : Arr w1 bk tb vs) (d : TypeDesc) (hu : P.underlying t = some d)
    (hd : (match d with | .struct _ | .array _ _ => true | _ => false) = true) (hi : (P.info? t).map (·.size) = some vs.length) (h : K (b.put o.dst (.agg vs.toArray)) w1) : o.wp P b w1 K Q :=
  wp_load_row t x ho bk hx tb vs.toArray (0, 0) d hB hu hd (by simpa using hi) h
theorem op_call {f : FuncId} {args : Array Operand} {ts : Array TypeId} {vs : Array Value} {G : Value → World → Prop} (ho : o.op = .call { callee := .value (.func f), args := args, argTypes := ts }) (ha : args.map b.eval = vs) (he : ∀ args w, (callFunc f args).run P w = .ok (.enter f args) w)
    (hc : Calls P f vs w1 fun e w' => ∃ v, e = .returned v ∧ Ext w1 w' ∧ G v w') (h : ∀ v w', Ext w1 w' → G v w' → K (b.put o.dst v) w') : o.wp P b w1 K Q := by
  have hr : (execOp b.eval o).run P w1 = .ok (.enter f vs) w1 := by
    unfold execOp
    simp [ho, resolve, invoke, Deferred.ofValue, Act.eval, ha, he]
  unfold Oper.wp
  rw [hr, Oper.upon_enter]
  refine hc.mono ?_
  rintro e w' ⟨v, rfl, hx, hg⟩
  exact h v w' hx hg
end
end Go.Proofs.YtjceebpafnnffaaDoor

namespace Go.Proofs.YtjceebpafnnffaaDoor
open Go Go.RowKit

/-- What the law's first loop has found. -/
theorem found_step {f : Lk → Bool} {lv : List Lk} {j : Nat} {y : Lk} (hy : lv[j]? = some y) : (lv.take (j + 1)).any f = ((lv.take j).any f || f y) := any_step hy
theorem found_iff {ls : List Lk} (h : VT ls) (now : Int) (p : Pt) : ls.any (holdsL now p) = decide (ownerL ls now p ≠ 0) := by
  rw [Bool.eq_iff_iff, List.any_eq_true, decide_eq_true_eq]
  constructor
  · rintro ⟨y, hy, hh⟩
    rw [owner_of h hy hh]
    exact owner_site h hy
  · intro ho
    obtain ⟨y, hy, hh, _⟩ := owner_pos h ho
    exact ⟨y, hy, hh⟩
theorem owner_expire (ls : List Lk) (now : Int) (p : Pt) : ownerL (ls.filter (livesL now)) now p = ownerL ls now p := by
  unfold ownerL
  rw [List.filter_filter]
  simp only [Bool.and_self]
set_option maxRecDepth 100000 in
set_option maxHeartbeats 16000000 in
theorem LockOwners_any (A A2 : Option Addr) (c c2 : Nat) (ls : List Lk) (cs : List Chg) (site now : Int) (p : Pt) (w : World) (hs : Sv w w.heap.size 9 A c (rowsL ls)) (hs2 : Sv w w.heap.size 5 A2 c2 (rowsC cs)) (h2 : 0 ≤ site ∧ site ≤ 255) (hL : Laid w) :
    Calls Tryd.prog 8 #[.slice A ls.length c, .int .u8 site, .int .i64 now, .agg #[.int .i64 p.x, .int .i64 p.y, .int .i64 p.z], .slice A2 cs.length c2] w fun e w' => e = .returned (.bool true) ∧ Ext w w' := by
  have hm := mixed
  have hG := near_old
  have HS := Lib.hid hs
  have HS2 := Lib.hid hs2
  have HL := Lib.hid hL
  have HFW := Lib.hid (fun (w' : World) (hx : Ext w w') => few_any A c ls w' (HS.out.ext hx))
  have D0 := Arr.new w 26 [.int .i64 p.x, .int .i64 p.y, .int .i64 p.z]
  have hx0 : Ext w (w.alloc (.cells #[.int .i64 p.x, .int .i64 p.y, .int .i64 p.z] 26)) := (Ext.refl w).alloc _
  have X0 := Lib.hid hx0
  have HD0 := Lib.hid D0
  have hln := hs2.len
  rw [rowsC_length] at hln
  clear hs hs2 hL D0 hx0
  cases hf : (decide (ls.length ≤ 60) && validR ls) && decide (cs.length ≤ 60)
  · have hno : (decide (ls.length ≤ 60) && validR ls) = false ∨ ((decide (ls.length ≤ 60) && validR ls) = true ∧ decide ((60 : Int) < (cs.length : Int)) = true ∧ decide (60 < cs.length) = true) := by
      cases h1 : decide (ls.length ≤ 60) && validR ls
      · exact .inl rfl
      · rw [h1] at hf
        have : ¬ cs.length ≤ 60 := by simpa using hf
        exact .inr ⟨rfl, decide_eq_true (by omega), decide_eq_true (by omega)⟩
    clear hf
    rcases hno with h1 | ⟨h1, h3, h4⟩
    all_goals
      rw [h1] at HFW
      clear h1
      go_enter Tryd.func8, Tryd.ntmps8
      go_wp2_with fail
      refine (HFW.out _ X0.out).mono ?_
      rintro e w1 ⟨rfl, x1⟩
      go_wp2_with fail
      refine (sanity_any _ (HL.out.ext (X0.out.trans x1))).mono ?_
      rintro e w2 ⟨rfl, x2⟩
      go_wp2
      go_ret
      exact ⟨rfl, (X0.out.trans x1).trans x2⟩
  · rw [Bool.and_eq_true] at hf
    rw [hf.1] at HFW
    obtain ⟨hv, hb⟩ := few_VT hf.1
    have hcl : cs.length ≤ 60 := by simpa using hf.2
    have h3 : decide ((60 : Int) < (cs.length : Int)) = false := decide_eq_false (by omega)
    have h4 : decide (60 < cs.length) = false := decide_eq_false (by omega)
    have HV := Lib.hid hv
    have w1a : IntKind.i64.wrap site = site := IntWalk.i64_in _ (by omega)
    have w3a : site.tmod 8 = site % 8 := Int.tmod_eq_emod_of_nonneg h2.1
    have w4a : IntKind.i64.wrap (site % 8 + 1) = site % 8 + 1 := IntWalk.i64_in _ (by omega)
    clear hf hv
    go_enter Tryd.func8, Tryd.ntmps8
    go_wp2_with fail
    refine (HFW.out _ X0.out).mono ?_
    rintro e w1 ⟨rfl, x1⟩
    have X1 := Lib.hid (X0.out.trans x1)
    have D1 := HD0.out.ext x1
    clear x1
    go_wp2_with (first | (refine wpList_load_blk 26 (.tmp 8) rfl rfl D1 rfl _ Tryd.underlying26 rfl (by kernel_rfl) ?_) | (refine wpList_load_blk 26 (.tmp 8) rfl rfl (D1.alloc _) rfl _ Tryd.underlying26 rfl (by kernel_rfl) ?_) | (refine wpList_load_blk 26 (.tmp 8) rfl rfl ((D1.alloc _).alloc _) rfl _ Tryd.underlying26 rfl (by kernel_rfl) ?_))
    obtain ⟨o, ho⟩ : ∃ o, o = ownerL ls now p := ⟨_, rfl⟩
    have HO := Lib.hid ho.symm
    clear ho w1a w3a w4a
    refine (owner_at HO.out (by omega) A c _ (HS.out.ext X1.out)).mono ?_
    rintro e w2 ⟨rfl, x2⟩
    have X2 := Lib.hid (X1.out.trans x2)
    have HD2 := Lib.hid (D1.ext x2)
    clear x2 D1
    generalize hsx : site % 8 + 1 = s
    have hs1 : 1 ≤ s ∧ s ≤ 8 := by omega
    clear hsx
    go_wp2_with fail
    go_loopw [13, 39] (fun v i wr => ∃ k : Nat, k ≤ ls.length ∧ i = .int .i64 k ∧ v = .bool ((ls.take k).any (holdsL now p)) ∧ Ext w2 wr) (fun _ i _ => ls.length - (intOf i).toNat)
    case atStart => exact ⟨0, Nat.zero_le _, rfl, rfl, Ext.refl _⟩
    case round =>
      obtain ⟨k, hk, rfl, rfl, hx⟩ := hrel
      have HXX := Lib.hid hx
      clear hx
      by_cases hlt : k < ls.length
      · obtain ⟨y, hyk⟩ : ∃ y, ls[k]? = some y := ⟨_, List.getElem?_eq_getElem hlt⟩
        obtain ⟨b', off, rfl, hbl, hrow⟩ := lk_row ((HS.out.ext X2.out).ext HXX.out) hyk
        have HYK := Lib.hid hyk
        have HRW := Lib.hid hrow
        have HST := Lib.hid (found_step (f := holdsL now p) hyk)
        have B4 := Arr.new wr 52 [.int .i64 0, .int .i64 0, .int .i64 0, .int .i64 0, .int .i64 0, .int .i64 0, .int .i64 0, .int .i64 0, .int .i64 0]
        have B5 := B4.setRow y.cells
        have xa : Ext wr ((wr.alloc (.cells #[.int .i64 0, .int .i64 0, .int .i64 0, .int .i64 0, .int .i64 0, .int .i64 0, .int .i64 0, .int .i64 0, .int .i64 0] 52)).setRow wr.heap.size y.cells.toArray) := ((Ext.refl wr).alloc _).setRow (Nat.le_refl _) _
        have X5 := Lib.hid (HXX.out.trans xa)
        have HD5 := Lib.hid (HD2.out.ext X5.out)
        have HB5 := Lib.hid B5
        have c0 : World.cell? _ ⟨wr.heap.size, 0, none⟩ = some (.int .i64 y.site) := B5.cell 0
        have c2' : World.cell? _ ⟨wr.heap.size, 2, none⟩ = some (.int .i64 y.til) := B5.cell 2
        have lB := B5.lt
        clear hrow hyk xa B5
        generalize (ls.take k).any (holdsL now p) = bf at HST
        by_cases hl : now ≤ y.til
        · have hd : decide (now ≤ y.til) = true := decide_eq_true hl
          have HIN := Lib.hid (fun w' => refIn_any p y.box w')
          cases hin : inP p y.box
          · have HH := Lib.hid (show holdsL now p y = false from by unfold holdsL; rw [hin]; simp)
            rw [hin] at HIN
            clear hl hin
            go_wp2_with (first
              | (refine wpList_load_mid rfl 52 (.tmp 41) rfl b' (off + k * 9) rfl y.cells _ HRW.out Tryd.underlying52 rfl (by kernel_rfl) ?_)
              | (refine wpList_store_blk 52 (.tmp 15) (.tmp 42) rfl rfl B4 y.cells rfl rfl (by kernel_rfl) rfl rfl ?_)
              | (refine wpList_load_blk 26 (.tmp 8) rfl rfl HD5.out rfl _ Tryd.underlying26 rfl (by kernel_rfl) ?_) | (refine wpList_load_blk 26 (.tmp 8) rfl rfl (HD5.out.alloc _) rfl _ Tryd.underlying26 rfl (by kernel_rfl) ?_) | (refine wpList_load_blk 26 (.tmp 8) rfl rfl ((HD5.out.alloc _).alloc _) rfl _ Tryd.underlying26 rfl (by kernel_rfl) ?_) | (refine wpList_load_part 28 (.tmp 49) rfl rfl HB5.out 3 [.int .i64 y.box.lo.x, .int .i64 y.box.lo.y, .int .i64 y.box.lo.z, .int .i64 y.box.hi.x, .int .i64 y.box.hi.y, .int .i64 y.box.hi.z] rfl rfl _ Tryd.underlying28 rfl (by kernel_rfl) ?_) | (refine wpList_load_part 28 (.tmp 49) rfl rfl (HB5.out.alloc _) 3 [.int .i64 y.box.lo.x, .int .i64 y.box.lo.y, .int .i64 y.box.lo.z, .int .i64 y.box.hi.x, .int .i64 y.box.hi.y, .int .i64 y.box.hi.z] rfl rfl _ Tryd.underlying28 rfl (by kernel_rfl) ?_))
            refine (HIN.out _).mono ?_
            rintro e w3 ⟨rfl, x3⟩
            have X6 := Lib.hid (X5.out.trans x3)
            go_wp2
            go_roundw
            case rel => exact ⟨k + 1, by omega, by go_num, by rw [HST.out, HH.out]; simp, X6.out⟩
            case measure => simp [intOf]; omega
          · have hh : holdsL now p y = true := by unfold holdsL livesL; rw [hin, hd]; rfl
            have HH := Lib.hid hh
            have hso : y.site = o := by rw [← HO.out]; exact (owner_of HV.out (List.mem_of_getElem? HYK.out) hh).symm
            have hb9 : (y.site != o) = false := by simp [hso]
            rw [hin] at HIN
            clear hl hin hh hso
            go_wp2_with (first
              | (refine wpList_load_mid rfl 52 (.tmp 41) rfl b' (off + k * 9) rfl y.cells _ HRW.out Tryd.underlying52 rfl (by kernel_rfl) ?_)
              | (refine wpList_store_blk 52 (.tmp 15) (.tmp 42) rfl rfl B4 y.cells rfl rfl (by kernel_rfl) rfl rfl ?_)
              | (refine wpList_load_blk 26 (.tmp 8) rfl rfl HD5.out rfl _ Tryd.underlying26 rfl (by kernel_rfl) ?_) | (refine wpList_load_blk 26 (.tmp 8) rfl rfl (HD5.out.alloc _) rfl _ Tryd.underlying26 rfl (by kernel_rfl) ?_) | (refine wpList_load_blk 26 (.tmp 8) rfl rfl ((HD5.out.alloc _).alloc _) rfl _ Tryd.underlying26 rfl (by kernel_rfl) ?_) | (refine wpList_load_part 28 (.tmp 49) rfl rfl HB5.out 3 [.int .i64 y.box.lo.x, .int .i64 y.box.lo.y, .int .i64 y.box.lo.z, .int .i64 y.box.hi.x, .int .i64 y.box.hi.y, .int .i64 y.box.hi.z] rfl rfl _ Tryd.underlying28 rfl (by kernel_rfl) ?_) | (refine wpList_load_part 28 (.tmp 49) rfl rfl (HB5.out.alloc _) 3 [.int .i64 y.box.lo.x, .int .i64 y.box.lo.y, .int .i64 y.box.lo.z, .int .i64 y.box.hi.x, .int .i64 y.box.hi.y, .int .i64 y.box.hi.z] rfl rfl _ Tryd.underlying28 rfl (by kernel_rfl) ?_))
            refine (HIN.out _).mono ?_
            rintro e w3 ⟨rfl, x3⟩
            have X6 := Lib.hid (X5.out.trans x3)
            have c0' := (HB5.out.ext x3).cell 0
            have lB' := (HB5.out.ext x3).lt
            have c0 : w3.cell? ⟨wr.heap.size, 0, none⟩ = some (.int .i64 y.site) := c0'
            clear c0' x3
            go_wp2
            go_roundw
            case rel => exact ⟨k + 1, by omega, by go_num, by rw [HST.out, HH.out]; simp, X6.out⟩
            case measure => simp [intOf]; omega
        · have hd : decide (now ≤ y.til) = false := decide_eq_false hl
          have HH := Lib.hid (show holdsL now p y = false from by unfold holdsL livesL; rw [hd]; rfl)
          clear hl
          go_wp2_with (first
            | (refine wpList_load_mid rfl 52 (.tmp 41) rfl b' (off + k * 9) rfl y.cells _ HRW.out Tryd.underlying52 rfl (by kernel_rfl) ?_)
            | (refine wpList_store_blk 52 (.tmp 15) (.tmp 42) rfl rfl B4 y.cells rfl rfl (by kernel_rfl) rfl rfl ?_))
          go_roundw
          case rel => exact ⟨k + 1, by omega, by go_num, by rw [HST.out, HH.out]; simp, X5.out⟩
          case measure => simp [intOf]; omega
      · obtain rfl : k = ls.length := by omega
        have X3 := Lib.hid (X2.out.trans HXX.out)
        have HD3 := Lib.hid (HD2.out.ext HXX.out)
        rw [List.take_length, found_iff HV.out, HO.out]
        clear hk hlt HXX
        have T3 := HS.out.ext X3.out
        obtain ⟨bb, hbb⟩ : ∃ bb, bb = (decide (o ≠ 0) && decide (o ≠ s)) := ⟨_, rfl⟩
        have HBB := Lib.hid (show blocksL ls s now p = bb from by rw [blocks_def, HO.out, hbb])
        have HOX := Lib.hid (show ownerL (ls.filter (livesL now)) now p = o from by rw [owner_expire, HO.out])
        have hfl := filter_len (livesL now) ls
        obtain ⟨lv, hlv⟩ : ∃ lv, lv = ls.filter (livesL now) := ⟨_, rfl⟩
        have HEX := Lib.hid (fun (w' : World) (hx : Ext wr w') => (Expire_any A c ls _ (T3.ext hx) (by omega) now).mono fun _ _ h => RetL.read h)
        rw [← hlv] at HEX HOX hfl
        clear hlv
        by_cases ho0 : o = 0
        · have hfo : decide (o ≠ 0) = false := by simp [ho0]
          have b0 : (o != 0) = false := by simp [ho0]
          have b1 : bb = false := by rw [hbb]; simp [ho0]
          rw [hfo]
          subst b1
          clear ho0 hbb hfo
          go_wp2_with fail
          refine wp_region_rel (fun i v w' => match i with
              | 0 => v = .bool false
              | 1 => v = .int .i64 o
              | 2 => v = .bool false
              | 3 => v = .bool false
              | 4 => v = .bool false
              | 5 => v = .slice A ls.length c
              | 6 => v = .int .i64 s
              | 7 => v = .int .i64 now
              | 8 => v = .agg #[.int .i64 p.x, .int .i64 p.y, .int .i64 p.z]
              | 9 => v = .bool false
              | 10 => v = .int .i64 o
              | 11 => v = .bool false
              | 12 => v = .bool false
              | 13 => v = undef
              | 14 => v = undef
              | 15 => v = undef
              | 16 => v = .bool false
              | 17 => v = .bool false
              | 18 => v = .bool false
              | 19 => v = .bool false
              | 20 => v = .slice A ls.length c
              | 21 => v = .int .i64 now
              | 22 => ∃ A8 c8, v = .slice A8 lv.length c8 ∧ Sv w' w'.heap.size 9 A8 c8 (rowsL lv)
              | 23 => v = .int .i64 now
              | 24 => v = .agg #[.int .i64 p.x, .int .i64 p.y, .int .i64 p.z]
              | 25 => v = .int .i64 o
              | 26 => v = .int .i64 o
              | 27 => v = .bool false
              | 28 => v = .bool false
              | _ => True) hm (by kernel_rfl) (by kernel_rfl) rfl ?_ ?_ ?_
          · intro i v w1 w2 hx h
            match i, h with
            | 0, h => exact h
            | 1, h => exact h
            | 2, h => exact h
            | 3, h => exact h
            | 4, h => exact h
            | 5, h => exact h
            | 6, h => exact h
            | 7, h => exact h
            | 8, h => exact h
            | 9, h => exact h
            | 10, h => exact h
            | 11, h => exact h
            | 12, h => exact h
            | 13, h => exact h
            | 14, h => exact h
            | 15, h => exact h
            | 16, h => exact h
            | 17, h => exact h
            | 18, h => exact h
            | 19, h => exact h
            | 20, h => exact h
            | 21, h => exact h
            | 22, h => exact (fun ⟨A8, c8, e8, s8⟩ => ⟨A8, c8, e8, s8.ext hx⟩) h
            | 23, h => exact h
            | 24, h => exact h
            | 25, h => exact h
            | 26, h => exact h
            | 27, h => exact h
            | 28, h => exact h
            | i + 29, h => exact h
          · intro i o ho b w1 hx hmiss hdep K hK
            match i, ho with
            | 0, ho =>
              obtain rfl := Option.some.inj ho
              have e13 : b.tmps[13]? = some (.bool false) := hmiss 13 rfl
              refine want_none rfl ?_
              exact op_move rfl (eval_of e13) (hK _ w1 (Ext.refl _) rfl)
            | 1, ho =>
              obtain rfl := Option.some.inj ho
              have e12 : b.tmps[12]? = some (.int .i64 o) := hmiss 12 rfl
              refine want_none rfl ?_
              exact op_move rfl (eval_of e12) (hK _ w1 (Ext.refl _) rfl)
            | 2, ho =>
              obtain rfl := Option.some.inj ho
              obtain ⟨v59, g59, e59⟩ := hdep 1 rfl
              have g59 : v59 = .int .i64 o := g59
              subst g59
              have e59 := e59 59 rfl
              refine want_none rfl ?_
              exact op_run (by unfold execOp; simp [e59, Act.eval, go_sem, b0]) (hK _ w1 (Ext.refl _) rfl)
            | 3, ho =>
              obtain rfl := Option.some.inj ho
              obtain ⟨v58, g58, e58⟩ := hdep 0 rfl
              have g58 : v58 = .bool false := g58
              subst g58
              have e58 := e58 58 rfl
              obtain ⟨v60, g60, e60⟩ := hdep 2 rfl
              have g60 : v60 = .bool false := g60
              subst g60
              have e60 := e60 60 rfl
              refine want_none rfl ?_
              exact op_run (by unfold execOp; simp [e58, e60, Act.eval, go_sem]) (hK _ w1 (Ext.refl _) rfl)
            | 4, ho =>
              obtain rfl := Option.some.inj ho
              obtain ⟨v61, g61, e61⟩ := hdep 3 rfl
              have g61 : v61 = .bool false := g61
              subst g61
              have e61 := e61 61 rfl
              refine want_none rfl ?_
              exact op_move rfl (eval_of e61) (hK _ w1 (Ext.refl _) rfl)
            | 5, ho =>
              obtain rfl := Option.some.inj ho
              have e0 : b.tmps[0]? = some (.slice A ls.length c) := hmiss 0 rfl
              obtain ⟨vg, gg, eg⟩ := hdep 4 rfl
              have gg : vg = .bool false := gg
              subst gg
              have eg := eg 62 rfl
              refine want_yes rfl rfl eg ?_
              exact op_move rfl (eval_of e0) (hK _ w1 (Ext.refl _) rfl)
            | 6, ho =>
              obtain rfl := Option.some.inj ho
              have e11 : b.tmps[11]? = some (.int .i64 s) := hmiss 11 rfl
              obtain ⟨vg, gg, eg⟩ := hdep 4 rfl
              have gg : vg = .bool false := gg
              subst gg
              have eg := eg 62 rfl
              refine want_yes rfl rfl eg ?_
              exact op_move rfl (eval_of e11) (hK _ w1 (Ext.refl _) rfl)
            | 7, ho =>
              obtain rfl := Option.some.inj ho
              have e2 : b.tmps[2]? = some (.int .i64 now) := hmiss 2 rfl
              obtain ⟨vg, gg, eg⟩ := hdep 4 rfl
              have gg : vg = .bool false := gg
              subst gg
              have eg := eg 62 rfl
              refine want_yes rfl rfl eg ?_
              exact op_move rfl (eval_of e2) (hK _ w1 (Ext.refl _) rfl)
            | 8, ho =>
              obtain rfl := Option.some.inj ho
              have e8 : b.tmps[8]? = some (.pointer (some ⟨w.heap.size, 0, none⟩)) := hmiss 8 rfl
              obtain ⟨vg, gg, eg⟩ := hdep 4 rfl
              have gg : vg = .bool false := gg
              subst gg
              have eg := eg 62 rfl
              refine want_yes rfl rfl eg ?_
              exact op_loadrow rfl (eval_of e8) (HD3.out.ext hx) _ Tryd.underlying26 rfl (by kernel_rfl) (hK _ w1 (Ext.refl _) rfl)
            | 9, ho =>
              obtain rfl := Option.some.inj ho
              obtain ⟨v63, g63, e63⟩ := hdep 5 rfl
              have g63 : v63 = .slice A ls.length c := g63
              subst g63
              have e63 := e63 63 rfl
              obtain ⟨v64, g64, e64⟩ := hdep 6 rfl
              have g64 : v64 = .int .i64 s := g64
              subst g64
              have e64 := e64 64 rfl
              obtain ⟨v65, g65, e65⟩ := hdep 7 rfl
              have g65 : v65 = .int .i64 now := g65
              subst g65
              have e65 := e65 65 rfl
              obtain ⟨v66, g66, e66⟩ := hdep 8 rfl
              have g66 : v66 = .agg #[.int .i64 p.x, .int .i64 p.y, .int .i64 p.z] := g66
              subst g66
              have e66 := e66 66 rfl
              obtain ⟨vg, gg, eg⟩ := hdep 4 rfl
              have gg : vg = .bool false := gg
              subst gg
              have eg := eg 62 rfl
              refine want_yes rfl rfl eg ?_
              have hc : Calls Tryd.prog 22 #[.slice A ls.length c, .int .i64 s, .int .i64 now, .agg #[.int .i64 p.x, .int .i64 p.y, .int .i64 p.z]] w1 fun e w' => ∃ v, e = .returned v ∧ Ext w1 w' ∧ (v = .bool false) := (blocks_at HBB.out (by omega) A c _ (T3.ext hx)).mono fun e w2 h => ⟨_, h.1, h.2, rfl⟩
              exact op_call (G := fun v w' => v = .bool false) rfl (by simp [eval_of e63, eval_of e64, eval_of e65, eval_of e66]) (fun _ _ => by kernel_rfl) hc (fun v w' h1 h2 => hK v w' h1 h2)
            | 10, ho =>
              obtain rfl := Option.some.inj ho
              have e12 : b.tmps[12]? = some (.int .i64 o) := hmiss 12 rfl
              obtain ⟨vg, gg, eg⟩ := hdep 4 rfl
              have gg : vg = .bool false := gg
              subst gg
              have eg := eg 62 rfl
              refine want_yes rfl rfl eg ?_
              exact op_move rfl (eval_of e12) (hK _ w1 (Ext.refl _) rfl)
            | 11, ho =>
              obtain rfl := Option.some.inj ho
              obtain ⟨v68, g68, e68⟩ := hdep 10 rfl
              have g68 : v68 = .int .i64 o := g68
              subst g68
              have e68 := e68 68 rfl
              obtain ⟨vg, gg, eg⟩ := hdep 4 rfl
              have gg : vg = .bool false := gg
              subst gg
              have eg := eg 62 rfl
              refine want_yes rfl rfl eg ?_
              exact op_run (by unfold execOp; simp [e68, Act.eval, go_sem, b0]) (hK _ w1 (Ext.refl _) rfl)
            | 12, ho =>
              obtain rfl := Option.some.inj ho
              obtain ⟨v69, g69, e69⟩ := hdep 11 rfl
              have g69 : v69 = .bool false := g69
              subst g69
              have e69 := e69 69 rfl
              obtain ⟨vg, gg, eg⟩ := hdep 4 rfl
              have gg : vg = .bool false := gg
              subst gg
              have eg := eg 62 rfl
              refine want_yes rfl rfl eg ?_
              exact op_move rfl (eval_of e69) (hK _ w1 (Ext.refl _) rfl)
            | 13, ho =>
              obtain rfl := Option.some.inj ho
              obtain ⟨vg, gg, eg⟩ := hdep 12 rfl
              have gg : vg = .bool false := gg
              subst gg
              have eg := eg 70 rfl
              exact want_no rfl rfl (.inl eg) (hK _ w1 (Ext.refl _) rfl)
            | 14, ho =>
              obtain rfl := Option.some.inj ho
              obtain ⟨vg, gg, eg⟩ := hdep 12 rfl
              have gg : vg = .bool false := gg
              subst gg
              have eg := eg 70 rfl
              exact want_no rfl rfl (.inl eg) (hK _ w1 (Ext.refl _) rfl)
            | 15, ho =>
              obtain rfl := Option.some.inj ho
              obtain ⟨vg, gg, eg⟩ := hdep 12 rfl
              have gg : vg = .bool false := gg
              subst gg
              have eg := eg 70 rfl
              exact want_no rfl rfl (.inl eg) (hK _ w1 (Ext.refl _) rfl)
            | 16, ho =>
              obtain rfl := Option.some.inj ho
              obtain ⟨v70, g70, e70⟩ := hdep 12 rfl
              have g70 : v70 = .bool false := g70
              subst g70
              have e70 := e70 70 rfl
              obtain ⟨v73, g73, e73⟩ := hdep 15 rfl
              have g73 : v73 = undef := g73
              subst g73
              have e73 := e73 73 rfl
              obtain ⟨vg, gg, eg⟩ := hdep 4 rfl
              have gg : vg = .bool false := gg
              subst gg
              have eg := eg 62 rfl
              refine want_yes rfl rfl eg ?_
              exact op_run (by unfold execOp; simp [e70, e73, Act.eval, go_sem]) (hK _ w1 (Ext.refl _) rfl)
            | 17, ho =>
              obtain rfl := Option.some.inj ho
              obtain ⟨v67, g67, e67⟩ := hdep 9 rfl
              have g67 : v67 = .bool false := g67
              subst g67
              have e67 := e67 67 rfl
              obtain ⟨v74, g74, e74⟩ := hdep 16 rfl
              have g74 : v74 = .bool false := g74
              subst g74
              have e74 := e74 74 rfl
              obtain ⟨vg, gg, eg⟩ := hdep 4 rfl
              have gg : vg = .bool false := gg
              subst gg
              have eg := eg 62 rfl
              refine want_yes rfl rfl eg ?_
              exact op_run (by unfold execOp; simp [e67, e74, Act.eval, go_sem]) (hK _ w1 (Ext.refl _) rfl)
            | 18, ho =>
              obtain rfl := Option.some.inj ho
              obtain ⟨v62, g62, e62⟩ := hdep 4 rfl
              have g62 : v62 = .bool false := g62
              subst g62
              have e62 := e62 62 rfl
              obtain ⟨v75, g75, e75⟩ := hdep 17 rfl
              have g75 : v75 = .bool false := g75
              subst g75
              have e75 := e75 75 rfl
              refine want_none rfl ?_
              exact op_run (by unfold execOp; simp [e62, e75, Act.eval, go_sem]) (hK _ w1 (Ext.refl _) rfl)
            | 19, ho =>
              obtain rfl := Option.some.inj ho
              obtain ⟨v76, g76, e76⟩ := hdep 18 rfl
              have g76 : v76 = .bool false := g76
              subst g76
              have e76 := e76 76 rfl
              refine want_none rfl ?_
              exact op_move rfl (eval_of e76) (hK _ w1 (Ext.refl _) rfl)
            | 20, ho =>
              obtain rfl := Option.some.inj ho
              have e0 : b.tmps[0]? = some (.slice A ls.length c) := hmiss 0 rfl
              obtain ⟨vg, gg, eg⟩ := hdep 19 rfl
              have gg : vg = .bool false := gg
              subst gg
              have eg := eg 77 rfl
              refine want_yes rfl rfl eg ?_
              exact op_move rfl (eval_of e0) (hK _ w1 (Ext.refl _) rfl)
            | 21, ho =>
              obtain rfl := Option.some.inj ho
              have e2 : b.tmps[2]? = some (.int .i64 now) := hmiss 2 rfl
              obtain ⟨vg, gg, eg⟩ := hdep 19 rfl
              have gg : vg = .bool false := gg
              subst gg
              have eg := eg 77 rfl
              refine want_yes rfl rfl eg ?_
              exact op_move rfl (eval_of e2) (hK _ w1 (Ext.refl _) rfl)
            | 22, ho =>
              obtain rfl := Option.some.inj ho
              obtain ⟨v78, g78, e78⟩ := hdep 20 rfl
              have g78 : v78 = .slice A ls.length c := g78
              subst g78
              have e78 := e78 78 rfl
              obtain ⟨v79, g79, e79⟩ := hdep 21 rfl
              have g79 : v79 = .int .i64 now := g79
              subst g79
              have e79 := e79 79 rfl
              obtain ⟨vg, gg, eg⟩ := hdep 19 rfl
              have gg : vg = .bool false := gg
              subst gg
              have eg := eg 77 rfl
              refine want_yes rfl rfl eg ?_
              have hc : Calls Tryd.prog 18 #[.slice A ls.length c, .int .i64 now] w1 fun e w' => ∃ v, e = .returned v ∧ Ext w1 w' ∧ (∃ A8 c8, v = .slice A8 lv.length c8 ∧ Sv w' w'.heap.size 9 A8 c8 (rowsL lv)) := (HEX.out _ hx).mono fun e w2 ⟨A8, c8, h1, h2, h3⟩ => ⟨_, h1, h3, A8, c8, rfl, h2⟩
              exact op_call (G := fun v w' => ∃ A8 c8, v = .slice A8 lv.length c8 ∧ Sv w' w'.heap.size 9 A8 c8 (rowsL lv)) rfl (by simp [eval_of e78, eval_of e79]) (fun _ _ => by kernel_rfl) hc (fun v w' h1 h2 => hK v w' h1 h2)
            | 23, ho =>
              obtain rfl := Option.some.inj ho
              have e2 : b.tmps[2]? = some (.int .i64 now) := hmiss 2 rfl
              obtain ⟨vg, gg, eg⟩ := hdep 19 rfl
              have gg : vg = .bool false := gg
              subst gg
              have eg := eg 77 rfl
              refine want_yes rfl rfl eg ?_
              exact op_move rfl (eval_of e2) (hK _ w1 (Ext.refl _) rfl)
            | 24, ho =>
              obtain rfl := Option.some.inj ho
              have e8 : b.tmps[8]? = some (.pointer (some ⟨w.heap.size, 0, none⟩)) := hmiss 8 rfl
              obtain ⟨vg, gg, eg⟩ := hdep 19 rfl
              have gg : vg = .bool false := gg
              subst gg
              have eg := eg 77 rfl
              refine want_yes rfl rfl eg ?_
              exact op_loadrow rfl (eval_of e8) (HD3.out.ext hx) _ Tryd.underlying26 rfl (by kernel_rfl) (hK _ w1 (Ext.refl _) rfl)
            | 25, ho =>
              obtain rfl := Option.some.inj ho
              obtain ⟨v80, g80, e80⟩ := hdep 22 rfl
              obtain ⟨A8, c8, rfl, s8⟩ := g80
              have e80 := e80 80 rfl
              obtain ⟨v81, g81, e81⟩ := hdep 23 rfl
              have g81 : v81 = .int .i64 now := g81
              subst g81
              have e81 := e81 81 rfl
              obtain ⟨v82, g82, e82⟩ := hdep 24 rfl
              have g82 : v82 = .agg #[.int .i64 p.x, .int .i64 p.y, .int .i64 p.z] := g82
              subst g82
              have e82 := e82 82 rfl
              obtain ⟨vg, gg, eg⟩ := hdep 19 rfl
              have gg : vg = .bool false := gg
              subst gg
              have eg := eg 77 rfl
              refine want_yes rfl rfl eg ?_
              have hc : Calls Tryd.prog 20 #[.slice A8 lv.length c8, .int .i64 now, .agg #[.int .i64 p.x, .int .i64 p.y, .int .i64 p.z]] w1 fun e w' => ∃ v, e = .returned v ∧ Ext w1 w' ∧ (v = .int .i64 o) := (owner_at HOX.out (by omega) A8 c8 _ s8).mono fun e w2 h => ⟨_, h.1, h.2, rfl⟩
              exact op_call (G := fun v w' => v = .int .i64 o) rfl (by simp [eval_of e80, eval_of e81, eval_of e82]) (fun _ _ => by kernel_rfl) hc (fun v w' h1 h2 => hK v w' h1 h2)
            | 26, ho =>
              obtain rfl := Option.some.inj ho
              have e12 : b.tmps[12]? = some (.int .i64 o) := hmiss 12 rfl
              obtain ⟨vg, gg, eg⟩ := hdep 19 rfl
              have gg : vg = .bool false := gg
              subst gg
              have eg := eg 77 rfl
              refine want_yes rfl rfl eg ?_
              exact op_move rfl (eval_of e12) (hK _ w1 (Ext.refl _) rfl)
            | 27, ho =>
              obtain rfl := Option.some.inj ho
              obtain ⟨v83, g83, e83⟩ := hdep 25 rfl
              have g83 : v83 = .int .i64 o := g83
              subst g83
              have e83 := e83 83 rfl
              obtain ⟨v84, g84, e84⟩ := hdep 26 rfl
              have g84 : v84 = .int .i64 o := g84
              subst g84
              have e84 := e84 84 rfl
              obtain ⟨vg, gg, eg⟩ := hdep 19 rfl
              have gg : vg = .bool false := gg
              subst gg
              have eg := eg 77 rfl
              refine want_yes rfl rfl eg ?_
              exact op_run (by unfold execOp; simp [e83, e84, Act.eval, go_sem]) (hK _ w1 (Ext.refl _) rfl)
            | 28, ho =>
              obtain rfl := Option.some.inj ho
              obtain ⟨v77, g77, e77⟩ := hdep 19 rfl
              have g77 : v77 = .bool false := g77
              subst g77
              have e77 := e77 77 rfl
              obtain ⟨v85, g85, e85⟩ := hdep 27 rfl
              have g85 : v85 = .bool false := g85
              subst g85
              have e85 := e85 85 rfl
              refine want_none rfl ?_
              exact op_run (by unfold execOp; simp [e77, e85, Act.eval, go_sem]) (hK _ w1 (Ext.refl _) rfl)
            | i + 29, ho => cases ho
          · intro V w9 hx hg
            have g0 : V 0 = .bool false := hg 0 (by decide)
            have g1 : V 1 = .int .i64 o := hg 1 (by decide)
            have g2 : V 2 = .bool false := hg 2 (by decide)
            have g3 : V 3 = .bool false := hg 3 (by decide)
            have g4 : V 4 = .bool false := hg 4 (by decide)
            have g5 : V 5 = .slice A ls.length c := hg 5 (by decide)
            have g6 : V 6 = .int .i64 s := hg 6 (by decide)
            have g7 : V 7 = .int .i64 now := hg 7 (by decide)
            have g8 : V 8 = .agg #[.int .i64 p.x, .int .i64 p.y, .int .i64 p.z] := hg 8 (by decide)
            have g9 : V 9 = .bool false := hg 9 (by decide)
            have g10 : V 10 = .int .i64 o := hg 10 (by decide)
            have g11 : V 11 = .bool false := hg 11 (by decide)
            have g12 : V 12 = .bool false := hg 12 (by decide)
            have g13 : V 13 = undef := hg 13 (by decide)
            have g14 : V 14 = undef := hg 14 (by decide)
            have g15 : V 15 = undef := hg 15 (by decide)
            have g16 : V 16 = .bool false := hg 16 (by decide)
            have g17 : V 17 = .bool false := hg 17 (by decide)
            have g18 : V 18 = .bool false := hg 18 (by decide)
            have g19 : V 19 = .bool false := hg 19 (by decide)
            have g20 : V 20 = .slice A ls.length c := hg 20 (by decide)
            have g21 : V 21 = .int .i64 now := hg 21 (by decide)
            have g23 : V 23 = .int .i64 now := hg 23 (by decide)
            have g24 : V 24 = .agg #[.int .i64 p.x, .int .i64 p.y, .int .i64 p.z] := hg 24 (by decide)
            have g25 : V 25 = .int .i64 o := hg 25 (by decide)
            have g26 : V 26 = .int .i64 o := hg 26 (by decide)
            have g27 : V 27 = .bool false := hg 27 (by decide)
            have g28 : V 28 = .bool false := hg 28 (by decide)
            have g22 := hg 22 (by decide)
            simp only [List.length_cons, List.length_nil, fillAllN, dstOf, Act.put, List.getElem?_toArray, List.getElem?_cons_zero, List.getElem?_cons_succ, Option.bind_some, g0, g1, g2, g3, g4, g5, g6, g7, g8, g9, g10, g11, g12, g13, g14, g15, g16, g17, g18, g19, g20, g21, g23, g24, g25, g26, g27, g28, List.setIfInBounds_toArray, List.set_cons_zero, List.set_cons_succ]
            clear g0 g1 g2 g3 g4 g5 g6 g7 g8 g9 g10 g11 g12 g13 g14 g15 g16 g17 g18 g19 g20 g21 g23 g24 g25 g26 g27 g28 hg
            have X9 := Lib.hid (X3.out.trans hx)
            clear hx
            have hbk := Blocked_any A A2 c c2 ls cs w9 (HS.out.ext X9.out) (HS2.out.ext X9.out) (by omega) s now
            rw [blocked_eq HV.out] at hbk
            have hle2 := HS2.out.le
            have hmx2 := HS2.out.max
            rw [rowsC_length] at hle2
            unfold maxLen at hmx2
            unfold blockedR at hbk
            cases hq : cs.findIdx? (fun x => blocksL ls s now x.at_) with
            | none =>
              have hqi : idxC (fun x => blocksL ls s now x.at_) cs = -1 := by unfold idxC; rw [hq]
              rw [hqi, show max (-1 : Int) 0 = 0 from rfl, show decide ((0 : Int) ≤ -1) = false from rfl] at hbk
              have HNB := Lib.hid (fun (i : Nat) (y : Chg) (_ : i < cs.length) (hy : cs[i]? = some y) => show blocksL ls s now y.at_ = false by simpa using List.findIdx?_eq_none_iff.1 hq y (List.mem_of_getElem? hy))
              have HBK := Lib.hid hbk
              clear hq hqi hbk
              go_wp2_with fail
              refine HBK.out.mono ?_
              rintro e w10 ⟨rfl, x10⟩
              have X10 := Lib.hid (X9.out.trans x10)
              clear x10
              go_wp2_with fail
              go_loopw [120] (fun i wl => ∃ k : Nat, k ≤ cs.length ∧ i = .int .i64 k ∧ Ext w10 wl) (fun i _ => cs.length - (intOf i).toNat)
              case atStart => exact ⟨0, Nat.zero_le _, rfl, Ext.refl _⟩
              case round =>
                obtain ⟨k, hk, rfl, hxl⟩ := hrel
                have HXL := Lib.hid (X10.out.trans hxl)
                have HXW := Lib.hid hxl
                clear hxl
                by_cases hlt : k < cs.length
                · obtain ⟨y, hyk⟩ : ∃ y, cs[k]? = some y := ⟨_, List.getElem?_eq_getElem (by omega)⟩
                  have HBF := Lib.hid (HNB.out k y hlt hyk)
                  obtain ⟨bc, oc, hA, hbl, hrow⟩ := ch_row (HS2.out.ext HXL.out) hyk
                  subst hA
                  have HRW := Lib.hid hrow
                  have E4 := Arr.new wr 54 [.int .i64 0, .int .i64 0, .int .i64 0, .int .i64 0, .int .i64 0]
                  have E5 := E4.setRow y.cells
                  have xa : Ext wr ((wr.alloc (.cells #[.int .i64 0, .int .i64 0, .int .i64 0, .int .i64 0, .int .i64 0] 54)).setRow wr.heap.size y.cells.toArray) := ((Ext.refl wr).alloc _).setRow (Nat.le_refl _) _
                  have X11 := Lib.hid (HXL.out.trans xa)
                  have XA := Lib.hid xa
                  have HE5 := Lib.hid E5
                  clear hrow hyk xa E5
                  go_wp2_with (first
                    | (refine wpList_load_mid rfl 54 (.tmp 122) rfl bc (oc + k * 5) rfl y.cells _ HRW.out Tryd.underlying54 rfl (by kernel_rfl) ?_)
                    | (refine wpList_store_blk 54 (.tmp 19) (.tmp 123) rfl rfl E4 y.cells rfl rfl (by kernel_rfl) rfl rfl ?_)
                    | (refine wpList_load_part 26 (.tmp 127) rfl rfl HE5.out 0 [.int .i64 y.at_.x, .int .i64 y.at_.y, .int .i64 y.at_.z] rfl rfl _ Tryd.underlying26 rfl (by kernel_rfl) ?_) | (refine wpList_load_part 26 (.tmp 127) rfl rfl (HE5.out.alloc _) 0 [.int .i64 y.at_.x, .int .i64 y.at_.y, .int .i64 y.at_.z] rfl rfl _ Tryd.underlying26 rfl (by kernel_rfl) ?_))
                  refine (blocks_at HBF.out (by omega) A c _ (HS.out.ext X11.out)).mono ?_
                  rintro e w12 ⟨rfl, x12⟩
                  have XL2 := Lib.hid (HXW.out.trans (XA.out.trans x12))
                  clear x12
                  go_wp2
                  go_roundw
                  case rel => exact ⟨k + 1, by omega, by go_num, XL2.out⟩
                  case measure => simp [intOf]; omega
                · obtain rfl : k = cs.length := by omega
                  clear hlt
                  go_wp2_with fail
                  refine (sanity_any _ (HL.out.ext HXL.out)).mono ?_
                  rintro e w13 ⟨rfl, x13⟩
                  go_wp2
                  go_ret
                  exact ⟨rfl, HXL.out.trans x13⟩
            | some j =>
              have hqi : idxC (fun x => blocksL ls s now x.at_) cs = j := by unfold idxC; rw [hq]
              rw [hqi, show max (j : Int) 0 = j from by omega, show decide ((0 : Int) ≤ (j : Int)) = true from by simp] at hbk
              obtain ⟨hj1, hj2, hj3⟩ := List.findIdx?_eq_some_iff_getElem.1 hq
              have HNB := Lib.hid (fun (i : Nat) (y : Chg) (hi : i < j) (hy : cs[i]? = some y) => show blocksL ls s now y.at_ = false by
                obtain ⟨h1, rfl⟩ := List.getElem?_eq_some_iff.1 hy
                simpa using hj3 i hi)
              obtain ⟨z, hz⟩ : ∃ z, cs[j]? = some z := ⟨_, List.getElem?_eq_getElem hj1⟩
              have HZ := Lib.hid hz
              have HZB := Lib.hid (show blocksL ls s now z.at_ = true by
                obtain ⟨h1, rfl⟩ := List.getElem?_eq_some_iff.1 hz
                exact hj2)
              have HBK := Lib.hid hbk
              have f1 : decide ((j : Int) < 0) = false := decide_eq_false (by omega)
              have f2 : decide ((cs.length : Int) < (j : Int)) = false := decide_eq_false (by omega)
              have f3 : decide (cs.length < j) = false := decide_eq_false (by omega)
              have f4 : ((j : Int) == (cs.length : Int)) = false := beq_eq_false_iff_ne.2 (by omega)
              clear hq hqi hbk hj2 hj3 hz
              go_wp2_with fail
              refine HBK.out.mono ?_
              rintro e w10 ⟨rfl, x10⟩
              have X10 := Lib.hid (X9.out.trans x10)
              clear x10
              go_wp2_with fail
              go_loopw [120] (fun i wl => ∃ k : Nat, k ≤ j ∧ i = .int .i64 k ∧ Ext w10 wl) (fun i _ => j - (intOf i).toNat)
              case atStart => exact ⟨0, Nat.zero_le _, rfl, Ext.refl _⟩
              case round =>
                obtain ⟨k, hk, rfl, hxl⟩ := hrel
                have HXL := Lib.hid (X10.out.trans hxl)
                have HXW := Lib.hid hxl
                clear hxl
                by_cases hlt : k < j
                · obtain ⟨y, hyk⟩ : ∃ y, cs[k]? = some y := ⟨_, List.getElem?_eq_getElem (by omega)⟩
                  have HBF := Lib.hid (HNB.out k y hlt hyk)
                  obtain ⟨bc, oc, hA, hbl, hrow⟩ := ch_row (HS2.out.ext HXL.out) hyk
                  subst hA
                  have HRW := Lib.hid hrow
                  have E4 := Arr.new wr 54 [.int .i64 0, .int .i64 0, .int .i64 0, .int .i64 0, .int .i64 0]
                  have E5 := E4.setRow y.cells
                  have xa : Ext wr ((wr.alloc (.cells #[.int .i64 0, .int .i64 0, .int .i64 0, .int .i64 0, .int .i64 0] 54)).setRow wr.heap.size y.cells.toArray) := ((Ext.refl wr).alloc _).setRow (Nat.le_refl _) _
                  have X11 := Lib.hid (HXL.out.trans xa)
                  have XA := Lib.hid xa
                  have HE5 := Lib.hid E5
                  clear hrow hyk xa E5
                  go_wp2_with (first
                    | (refine wpList_load_mid rfl 54 (.tmp 122) rfl bc (oc + k * 5) rfl y.cells _ HRW.out Tryd.underlying54 rfl (by kernel_rfl) ?_)
                    | (refine wpList_store_blk 54 (.tmp 19) (.tmp 123) rfl rfl E4 y.cells rfl rfl (by kernel_rfl) rfl rfl ?_)
                    | (refine wpList_load_part 26 (.tmp 127) rfl rfl HE5.out 0 [.int .i64 y.at_.x, .int .i64 y.at_.y, .int .i64 y.at_.z] rfl rfl _ Tryd.underlying26 rfl (by kernel_rfl) ?_) | (refine wpList_load_part 26 (.tmp 127) rfl rfl (HE5.out.alloc _) 0 [.int .i64 y.at_.x, .int .i64 y.at_.y, .int .i64 y.at_.z] rfl rfl _ Tryd.underlying26 rfl (by kernel_rfl) ?_))
                  refine (blocks_at HBF.out (by omega) A c _ (HS.out.ext X11.out)).mono ?_
                  rintro e w12 ⟨rfl, x12⟩
                  have XL2 := Lib.hid (HXW.out.trans (XA.out.trans x12))
                  clear x12
                  go_wp2
                  go_roundw
                  case rel => exact ⟨k + 1, by omega, by go_num, XL2.out⟩
                  case measure => simp [intOf]; omega
                · obtain rfl : k = j := by omega
                  have hj0 : decide ((0 : Int) ≤ (k : Int)) = true := by simp
                  clear hlt
                  go_wp2_with fail
                  refine (sanity_any _ (HL.out.ext HXL.out)).mono ?_
                  rintro e w13 ⟨rfl, x13⟩
                  have X13 := Lib.hid (HXL.out.trans x13)
                  clear x13
                  obtain ⟨bc, oc, hA, hbl, hrow⟩ := ch_row (HS2.out.ext X13.out) HZ.out
                  subst hA
                  have q0 := hrow 0 _ rfl
                  have q1 := hrow 1 _ rfl
                  have q2 := hrow 2 _ rfl
                  simp only [Nat.add_zero] at q0
                  clear hrow
                  go_wp2_with fail
                  refine (blocks_at HZB.out (by omega) A c _ (HS.out.ext X13.out)).mono ?_
                  rintro e w14 ⟨rfl, x14⟩
                  go_wp2
                  go_ret
                  exact ⟨rfl, X13.out.trans x14⟩
        · have hfo : decide (o ≠ 0) = true := by simpa using ho0
          have b0 : (o != 0) = true := by simpa using ho0
          have b1 : (o != s) = bb := by rw [hbb]; simp [ho0, bne]; rfl
          rw [hfo]
          clear ho0 hbb hfo
          go_wp2_with fail
          refine wp_region_rel (fun i v w' => match i with
              | 0 => v = .bool true
              | 1 => v = .int .i64 o
              | 2 => v = .bool true
              | 3 => v = .bool false
              | 4 => v = .bool false
              | 5 => v = .slice A ls.length c
              | 6 => v = .int .i64 s
              | 7 => v = .int .i64 now
              | 8 => v = .agg #[.int .i64 p.x, .int .i64 p.y, .int .i64 p.z]
              | 9 => v = .bool bb
              | 10 => v = .int .i64 o
              | 11 => v = .bool true
              | 12 => v = .bool true
              | 13 => v = .int .i64 o
              | 14 => v = .int .i64 s
              | 15 => v = .bool bb
              | 16 => v = .bool bb
              | 17 => v = .bool false
              | 18 => v = .bool false
              | 19 => v = .bool false
              | 20 => v = .slice A ls.length c
              | 21 => v = .int .i64 now
              | 22 => ∃ A8 c8, v = .slice A8 lv.length c8 ∧ Sv w' w'.heap.size 9 A8 c8 (rowsL lv)
              | 23 => v = .int .i64 now
              | 24 => v = .agg #[.int .i64 p.x, .int .i64 p.y, .int .i64 p.z]
              | 25 => v = .int .i64 o
              | 26 => v = .int .i64 o
              | 27 => v = .bool false
              | 28 => v = .bool false
              | _ => True) hm (by kernel_rfl) (by kernel_rfl) rfl ?_ ?_ ?_
          · intro i v w1 w2 hx h
            match i, h with
            | 0, h => exact h
            | 1, h => exact h
            | 2, h => exact h
            | 3, h => exact h
            | 4, h => exact h
            | 5, h => exact h
            | 6, h => exact h
            | 7, h => exact h
            | 8, h => exact h
            | 9, h => exact h
            | 10, h => exact h
            | 11, h => exact h
            | 12, h => exact h
            | 13, h => exact h
            | 14, h => exact h
            | 15, h => exact h
            | 16, h => exact h
            | 17, h => exact h
            | 18, h => exact h
            | 19, h => exact h
            | 20, h => exact h
            | 21, h => exact h
            | 22, h => exact (fun ⟨A8, c8, e8, s8⟩ => ⟨A8, c8, e8, s8.ext hx⟩) h
            | 23, h => exact h
            | 24, h => exact h
            | 25, h => exact h
            | 26, h => exact h
            | 27, h => exact h
            | 28, h => exact h
            | i + 29, h => exact h
          · intro i o ho b w1 hx hmiss hdep K hK
            match i, ho with
            | 0, ho =>
              obtain rfl := Option.some.inj ho
              have e13 : b.tmps[13]? = some (.bool true) := hmiss 13 rfl
              refine want_none rfl ?_
              exact op_move rfl (eval_of e13) (hK _ w1 (Ext.refl _) rfl)
            | 1, ho =>
              obtain rfl := Option.some.inj ho
              have e12 : b.tmps[12]? = some (.int .i64 o) := hmiss 12 rfl
              refine want_none rfl ?_
              exact op_move rfl (eval_of e12) (hK _ w1 (Ext.refl _) rfl)
            | 2, ho =>
              obtain rfl := Option.some.inj ho
              obtain ⟨v59, g59, e59⟩ := hdep 1 rfl
              have g59 : v59 = .int .i64 o := g59
              subst g59
              have e59 := e59 59 rfl
              refine want_none rfl ?_
              exact op_run (by unfold execOp; simp [e59, Act.eval, go_sem, b0]) (hK _ w1 (Ext.refl _) rfl)
            | 3, ho =>
              obtain rfl := Option.some.inj ho
              obtain ⟨v58, g58, e58⟩ := hdep 0 rfl
              have g58 : v58 = .bool true := g58
              subst g58
              have e58 := e58 58 rfl
              obtain ⟨v60, g60, e60⟩ := hdep 2 rfl
              have g60 : v60 = .bool true := g60
              subst g60
              have e60 := e60 60 rfl
              refine want_none rfl ?_
              exact op_run (by unfold execOp; simp [e58, e60, Act.eval, go_sem]) (hK _ w1 (Ext.refl _) rfl)
            | 4, ho =>
              obtain rfl := Option.some.inj ho
              obtain ⟨v61, g61, e61⟩ := hdep 3 rfl
              have g61 : v61 = .bool false := g61
              subst g61
              have e61 := e61 61 rfl
              refine want_none rfl ?_
              exact op_move rfl (eval_of e61) (hK _ w1 (Ext.refl _) rfl)
            | 5, ho =>
              obtain rfl := Option.some.inj ho
              have e0 : b.tmps[0]? = some (.slice A ls.length c) := hmiss 0 rfl
              obtain ⟨vg, gg, eg⟩ := hdep 4 rfl
              have gg : vg = .bool false := gg
              subst gg
              have eg := eg 62 rfl
              refine want_yes rfl rfl eg ?_
              exact op_move rfl (eval_of e0) (hK _ w1 (Ext.refl _) rfl)
            | 6, ho =>
              obtain rfl := Option.some.inj ho
              have e11 : b.tmps[11]? = some (.int .i64 s) := hmiss 11 rfl
              obtain ⟨vg, gg, eg⟩ := hdep 4 rfl
              have gg : vg = .bool false := gg
              subst gg
              have eg := eg 62 rfl
              refine want_yes rfl rfl eg ?_
              exact op_move rfl (eval_of e11) (hK _ w1 (Ext.refl _) rfl)
            | 7, ho =>
              obtain rfl := Option.some.inj ho
              have e2 : b.tmps[2]? = some (.int .i64 now) := hmiss 2 rfl
              obtain ⟨vg, gg, eg⟩ := hdep 4 rfl
              have gg : vg = .bool false := gg
              subst gg
              have eg := eg 62 rfl
              refine want_yes rfl rfl eg ?_
              exact op_move rfl (eval_of e2) (hK _ w1 (Ext.refl _) rfl)
            | 8, ho =>
              obtain rfl := Option.some.inj ho
              have e8 : b.tmps[8]? = some (.pointer (some ⟨w.heap.size, 0, none⟩)) := hmiss 8 rfl
              obtain ⟨vg, gg, eg⟩ := hdep 4 rfl
              have gg : vg = .bool false := gg
              subst gg
              have eg := eg 62 rfl
              refine want_yes rfl rfl eg ?_
              exact op_loadrow rfl (eval_of e8) (HD3.out.ext hx) _ Tryd.underlying26 rfl (by kernel_rfl) (hK _ w1 (Ext.refl _) rfl)
            | 9, ho =>
              obtain rfl := Option.some.inj ho
              obtain ⟨v63, g63, e63⟩ := hdep 5 rfl
              have g63 : v63 = .slice A ls.length c := g63
              subst g63
              have e63 := e63 63 rfl
              obtain ⟨v64, g64, e64⟩ := hdep 6 rfl
              have g64 : v64 = .int .i64 s := g64
              subst g64
              have e64 := e64 64 rfl
              obtain ⟨v65, g65, e65⟩ := hdep 7 rfl
              have g65 : v65 = .int .i64 now := g65
              subst g65
              have e65 := e65 65 rfl
              obtain ⟨v66, g66, e66⟩ := hdep 8 rfl
              have g66 : v66 = .agg #[.int .i64 p.x, .int .i64 p.y, .int .i64 p.z] := g66
              subst g66
              have e66 := e66 66 rfl
              obtain ⟨vg, gg, eg⟩ := hdep 4 rfl
              have gg : vg = .bool false := gg
              subst gg
              have eg := eg 62 rfl
              refine want_yes rfl rfl eg ?_
              have hc : Calls Tryd.prog 22 #[.slice A ls.length c, .int .i64 s, .int .i64 now, .agg #[.int .i64 p.x, .int .i64 p.y, .int .i64 p.z]] w1 fun e w' => ∃ v, e = .returned v ∧ Ext w1 w' ∧ (v = .bool bb) := (blocks_at HBB.out (by omega) A c _ (T3.ext hx)).mono fun e w2 h => ⟨_, h.1, h.2, rfl⟩
              exact op_call (G := fun v w' => v = .bool bb) rfl (by simp [eval_of e63, eval_of e64, eval_of e65, eval_of e66]) (fun _ _ => by kernel_rfl) hc (fun v w' h1 h2 => hK v w' h1 h2)
            | 10, ho =>
              obtain rfl := Option.some.inj ho
              have e12 : b.tmps[12]? = some (.int .i64 o) := hmiss 12 rfl
              obtain ⟨vg, gg, eg⟩ := hdep 4 rfl
              have gg : vg = .bool false := gg
              subst gg
              have eg := eg 62 rfl
              refine want_yes rfl rfl eg ?_
              exact op_move rfl (eval_of e12) (hK _ w1 (Ext.refl _) rfl)
            | 11, ho =>
              obtain rfl := Option.some.inj ho
              obtain ⟨v68, g68, e68⟩ := hdep 10 rfl
              have g68 : v68 = .int .i64 o := g68
              subst g68
              have e68 := e68 68 rfl
              obtain ⟨vg, gg, eg⟩ := hdep 4 rfl
              have gg : vg = .bool false := gg
              subst gg
              have eg := eg 62 rfl
              refine want_yes rfl rfl eg ?_
              exact op_run (by unfold execOp; simp [e68, Act.eval, go_sem, b0]) (hK _ w1 (Ext.refl _) rfl)
            | 12, ho =>
              obtain rfl := Option.some.inj ho
              obtain ⟨v69, g69, e69⟩ := hdep 11 rfl
              have g69 : v69 = .bool true := g69
              subst g69
              have e69 := e69 69 rfl
              obtain ⟨vg, gg, eg⟩ := hdep 4 rfl
              have gg : vg = .bool false := gg
              subst gg
              have eg := eg 62 rfl
              refine want_yes rfl rfl eg ?_
              exact op_move rfl (eval_of e69) (hK _ w1 (Ext.refl _) rfl)
            | 13, ho =>
              obtain rfl := Option.some.inj ho
              have e12 : b.tmps[12]? = some (.int .i64 o) := hmiss 12 rfl
              obtain ⟨vg, gg, eg⟩ := hdep 12 rfl
              have gg : vg = .bool true := gg
              subst gg
              have eg := eg 70 rfl
              refine want_yes rfl rfl eg ?_
              exact op_move rfl (eval_of e12) (hK _ w1 (Ext.refl _) rfl)
            | 14, ho =>
              obtain rfl := Option.some.inj ho
              have e11 : b.tmps[11]? = some (.int .i64 s) := hmiss 11 rfl
              obtain ⟨vg, gg, eg⟩ := hdep 12 rfl
              have gg : vg = .bool true := gg
              subst gg
              have eg := eg 70 rfl
              refine want_yes rfl rfl eg ?_
              exact op_move rfl (eval_of e11) (hK _ w1 (Ext.refl _) rfl)
            | 15, ho =>
              obtain rfl := Option.some.inj ho
              obtain ⟨v71, g71, e71⟩ := hdep 13 rfl
              have g71 : v71 = .int .i64 o := g71
              subst g71
              have e71 := e71 71 rfl
              obtain ⟨v72, g72, e72⟩ := hdep 14 rfl
              have g72 : v72 = .int .i64 s := g72
              subst g72
              have e72 := e72 72 rfl
              obtain ⟨vg, gg, eg⟩ := hdep 12 rfl
              have gg : vg = .bool true := gg
              subst gg
              have eg := eg 70 rfl
              refine want_yes rfl rfl eg ?_
              exact op_run (by unfold execOp; simp [e71, e72, Act.eval, go_sem, b1]) (hK _ w1 (Ext.refl _) rfl)
            | 16, ho =>
              obtain rfl := Option.some.inj ho
              obtain ⟨v70, g70, e70⟩ := hdep 12 rfl
              have g70 : v70 = .bool true := g70
              subst g70
              have e70 := e70 70 rfl
              obtain ⟨v73, g73, e73⟩ := hdep 15 rfl
              have g73 : v73 = .bool bb := g73
              subst g73
              have e73 := e73 73 rfl
              obtain ⟨vg, gg, eg⟩ := hdep 4 rfl
              have gg : vg = .bool false := gg
              subst gg
              have eg := eg 62 rfl
              refine want_yes rfl rfl eg ?_
              exact op_run (by unfold execOp; simp [e70, e73, Act.eval, go_sem]) (hK _ w1 (Ext.refl _) rfl)
            | 17, ho =>
              obtain rfl := Option.some.inj ho
              obtain ⟨v67, g67, e67⟩ := hdep 9 rfl
              have g67 : v67 = .bool bb := g67
              subst g67
              have e67 := e67 67 rfl
              obtain ⟨v74, g74, e74⟩ := hdep 16 rfl
              have g74 : v74 = .bool bb := g74
              subst g74
              have e74 := e74 74 rfl
              obtain ⟨vg, gg, eg⟩ := hdep 4 rfl
              have gg : vg = .bool false := gg
              subst gg
              have eg := eg 62 rfl
              refine want_yes rfl rfl eg ?_
              exact op_run (by unfold execOp; simp [e67, e74, Act.eval, go_sem]) (hK _ w1 (Ext.refl _) rfl)
            | 18, ho =>
              obtain rfl := Option.some.inj ho
              obtain ⟨v62, g62, e62⟩ := hdep 4 rfl
              have g62 : v62 = .bool false := g62
              subst g62
              have e62 := e62 62 rfl
              obtain ⟨v75, g75, e75⟩ := hdep 17 rfl
              have g75 : v75 = .bool false := g75
              subst g75
              have e75 := e75 75 rfl
              refine want_none rfl ?_
              exact op_run (by unfold execOp; simp [e62, e75, Act.eval, go_sem]) (hK _ w1 (Ext.refl _) rfl)
            | 19, ho =>
              obtain rfl := Option.some.inj ho
              obtain ⟨v76, g76, e76⟩ := hdep 18 rfl
              have g76 : v76 = .bool false := g76
              subst g76
              have e76 := e76 76 rfl
              refine want_none rfl ?_
              exact op_move rfl (eval_of e76) (hK _ w1 (Ext.refl _) rfl)
            | 20, ho =>
              obtain rfl := Option.some.inj ho
              have e0 : b.tmps[0]? = some (.slice A ls.length c) := hmiss 0 rfl
              obtain ⟨vg, gg, eg⟩ := hdep 19 rfl
              have gg : vg = .bool false := gg
              subst gg
              have eg := eg 77 rfl
              refine want_yes rfl rfl eg ?_
              exact op_move rfl (eval_of e0) (hK _ w1 (Ext.refl _) rfl)
            | 21, ho =>
              obtain rfl := Option.some.inj ho
              have e2 : b.tmps[2]? = some (.int .i64 now) := hmiss 2 rfl
              obtain ⟨vg, gg, eg⟩ := hdep 19 rfl
              have gg : vg = .bool false := gg
              subst gg
              have eg := eg 77 rfl
              refine want_yes rfl rfl eg ?_
              exact op_move rfl (eval_of e2) (hK _ w1 (Ext.refl _) rfl)
            | 22, ho =>
              obtain rfl := Option.some.inj ho
              obtain ⟨v78, g78, e78⟩ := hdep 20 rfl
              have g78 : v78 = .slice A ls.length c := g78
              subst g78
              have e78 := e78 78 rfl
              obtain ⟨v79, g79, e79⟩ := hdep 21 rfl
              have g79 : v79 = .int .i64 now := g79
              subst g79
              have e79 := e79 79 rfl
              obtain ⟨vg, gg, eg⟩ := hdep 19 rfl
              have gg : vg = .bool false := gg
              subst gg
              have eg := eg 77 rfl
              refine want_yes rfl rfl eg ?_
              have hc : Calls Tryd.prog 18 #[.slice A ls.length c, .int .i64 now] w1 fun e w' => ∃ v, e = .returned v ∧ Ext w1 w' ∧ (∃ A8 c8, v = .slice A8 lv.length c8 ∧ Sv w' w'.heap.size 9 A8 c8 (rowsL lv)) := (HEX.out _ hx).mono fun e w2 ⟨A8, c8, h1, h2, h3⟩ => ⟨_, h1, h3, A8, c8, rfl, h2⟩
              exact op_call (G := fun v w' => ∃ A8 c8, v = .slice A8 lv.length c8 ∧ Sv w' w'.heap.size 9 A8 c8 (rowsL lv)) rfl (by simp [eval_of e78, eval_of e79]) (fun _ _ => by kernel_rfl) hc (fun v w' h1 h2 => hK v w' h1 h2)
            | 23, ho =>
              obtain rfl := Option.some.inj ho
              have e2 : b.tmps[2]? = some (.int .i64 now) := hmiss 2 rfl
              obtain ⟨vg, gg, eg⟩ := hdep 19 rfl
              have gg : vg = .bool false := gg
              subst gg
              have eg := eg 77 rfl
              refine want_yes rfl rfl eg ?_
              exact op_move rfl (eval_of e2) (hK _ w1 (Ext.refl _) rfl)
            | 24, ho =>
              obtain rfl := Option.some.inj ho
              have e8 : b.tmps[8]? = some (.pointer (some ⟨w.heap.size, 0, none⟩)) := hmiss 8 rfl
              obtain ⟨vg, gg, eg⟩ := hdep 19 rfl
              have gg : vg = .bool false := gg
              subst gg
              have eg := eg 77 rfl
              refine want_yes rfl rfl eg ?_
              exact op_loadrow rfl (eval_of e8) (HD3.out.ext hx) _ Tryd.underlying26 rfl (by kernel_rfl) (hK _ w1 (Ext.refl _) rfl)
            | 25, ho =>
              obtain rfl := Option.some.inj ho
              obtain ⟨v80, g80, e80⟩ := hdep 22 rfl
              obtain ⟨A8, c8, rfl, s8⟩ := g80
              have e80 := e80 80 rfl
              obtain ⟨v81, g81, e81⟩ := hdep 23 rfl
              have g81 : v81 = .int .i64 now := g81
              subst g81
              have e81 := e81 81 rfl
              obtain ⟨v82, g82, e82⟩ := hdep 24 rfl
              have g82 : v82 = .agg #[.int .i64 p.x, .int .i64 p.y, .int .i64 p.z] := g82
              subst g82
              have e82 := e82 82 rfl
              obtain ⟨vg, gg, eg⟩ := hdep 19 rfl
              have gg : vg = .bool false := gg
              subst gg
              have eg := eg 77 rfl
              refine want_yes rfl rfl eg ?_
              have hc : Calls Tryd.prog 20 #[.slice A8 lv.length c8, .int .i64 now, .agg #[.int .i64 p.x, .int .i64 p.y, .int .i64 p.z]] w1 fun e w' => ∃ v, e = .returned v ∧ Ext w1 w' ∧ (v = .int .i64 o) := (owner_at HOX.out (by omega) A8 c8 _ s8).mono fun e w2 h => ⟨_, h.1, h.2, rfl⟩
              exact op_call (G := fun v w' => v = .int .i64 o) rfl (by simp [eval_of e80, eval_of e81, eval_of e82]) (fun _ _ => by kernel_rfl) hc (fun v w' h1 h2 => hK v w' h1 h2)
            | 26, ho =>
              obtain rfl := Option.some.inj ho
              have e12 : b.tmps[12]? = some (.int .i64 o) := hmiss 12 rfl
              obtain ⟨vg, gg, eg⟩ := hdep 19 rfl
              have gg : vg = .bool false := gg
              subst gg
              have eg := eg 77 rfl
              refine want_yes rfl rfl eg ?_
              exact op_move rfl (eval_of e12) (hK _ w1 (Ext.refl _) rfl)
            | 27, ho =>
              obtain rfl := Option.some.inj ho
              obtain ⟨v83, g83, e83⟩ := hdep 25 rfl
              have g83 : v83 = .int .i64 o := g83
              subst g83
              have e83 := e83 83 rfl
              obtain ⟨v84, g84, e84⟩ := hdep 26 rfl
              have g84 : v84 = .int .i64 o := g84
              subst g84
              have e84 := e84 84 rfl
              obtain ⟨vg, gg, eg⟩ := hdep 19 rfl
              have gg : vg = .bool false := gg
              subst gg
              have eg := eg 77 rfl
              refine want_yes rfl rfl eg ?_
              exact op_run (by unfold execOp; simp [e83, e84, Act.eval, go_sem]) (hK _ w1 (Ext.refl _) rfl)
            | 28, ho =>
              obtain rfl := Option.some.inj ho
              obtain ⟨v77, g77, e77⟩ := hdep 19 rfl
              have g77 : v77 = .bool false := g77
              subst g77
              have e77 := e77 77 rfl
              obtain ⟨v85, g85, e85⟩ := hdep 27 rfl
              have g85 : v85 = .bool false := g85
              subst g85
              have e85 := e85 85 rfl
              refine want_none rfl ?_
              exact op_run (by unfold execOp; simp [e77, e85, Act.eval, go_sem]) (hK _ w1 (Ext.refl _) rfl)
            | i + 29, ho => cases ho
          · intro V w9 hx hg
            have g0 : V 0 = .bool true := hg 0 (by decide)
            have g1 : V 1 = .int .i64 o := hg 1 (by decide)
            have g2 : V 2 = .bool true := hg 2 (by decide)
            have g3 : V 3 = .bool false := hg 3 (by decide)
            have g4 : V 4 = .bool false := hg 4 (by decide)
            have g5 : V 5 = .slice A ls.length c := hg 5 (by decide)
            have g6 : V 6 = .int .i64 s := hg 6 (by decide)
            have g7 : V 7 = .int .i64 now := hg 7 (by decide)
            have g8 : V 8 = .agg #[.int .i64 p.x, .int .i64 p.y, .int .i64 p.z] := hg 8 (by decide)
            have g9 : V 9 = .bool bb := hg 9 (by decide)
            have g10 : V 10 = .int .i64 o := hg 10 (by decide)
            have g11 : V 11 = .bool true := hg 11 (by decide)
            have g12 : V 12 = .bool true := hg 12 (by decide)
            have g13 : V 13 = .int .i64 o := hg 13 (by decide)
            have g14 : V 14 = .int .i64 s := hg 14 (by decide)
            have g15 : V 15 = .bool bb := hg 15 (by decide)
            have g16 : V 16 = .bool bb := hg 16 (by decide)
            have g17 : V 17 = .bool false := hg 17 (by decide)
            have g18 : V 18 = .bool false := hg 18 (by decide)
            have g19 : V 19 = .bool false := hg 19 (by decide)
            have g20 : V 20 = .slice A ls.length c := hg 20 (by decide)
            have g21 : V 21 = .int .i64 now := hg 21 (by decide)
            have g23 : V 23 = .int .i64 now := hg 23 (by decide)
            have g24 : V 24 = .agg #[.int .i64 p.x, .int .i64 p.y, .int .i64 p.z] := hg 24 (by decide)
            have g25 : V 25 = .int .i64 o := hg 25 (by decide)
            have g26 : V 26 = .int .i64 o := hg 26 (by decide)
            have g27 : V 27 = .bool false := hg 27 (by decide)
            have g28 : V 28 = .bool false := hg 28 (by decide)
            have g22 := hg 22 (by decide)
            simp only [List.length_cons, List.length_nil, fillAllN, dstOf, Act.put, List.getElem?_toArray, List.getElem?_cons_zero, List.getElem?_cons_succ, Option.bind_some, g0, g1, g2, g3, g4, g5, g6, g7, g8, g9, g10, g11, g12, g13, g14, g15, g16, g17, g18, g19, g20, g21, g23, g24, g25, g26, g27, g28, List.setIfInBounds_toArray, List.set_cons_zero, List.set_cons_succ]
            clear g0 g1 g2 g3 g4 g5 g6 g7 g8 g9 g10 g11 g12 g13 g14 g15 g16 g17 g18 g19 g20 g21 g23 g24 g25 g26 g27 g28 hg
            have X9 := Lib.hid (X3.out.trans hx)
            clear hx
            have hbk := Blocked_any A A2 c c2 ls cs w9 (HS.out.ext X9.out) (HS2.out.ext X9.out) (by omega) s now
            rw [blocked_eq HV.out] at hbk
            have hle2 := HS2.out.le
            have hmx2 := HS2.out.max
            rw [rowsC_length] at hle2
            unfold maxLen at hmx2
            unfold blockedR at hbk
            cases hq : cs.findIdx? (fun x => blocksL ls s now x.at_) with
            | none =>
              have hqi : idxC (fun x => blocksL ls s now x.at_) cs = -1 := by unfold idxC; rw [hq]
              rw [hqi, show max (-1 : Int) 0 = 0 from rfl, show decide ((0 : Int) ≤ -1) = false from rfl] at hbk
              have HNB := Lib.hid (fun (i : Nat) (y : Chg) (_ : i < cs.length) (hy : cs[i]? = some y) => show blocksL ls s now y.at_ = false by simpa using List.findIdx?_eq_none_iff.1 hq y (List.mem_of_getElem? hy))
              have HBK := Lib.hid hbk
              clear hq hqi hbk
              go_wp2_with fail
              refine HBK.out.mono ?_
              rintro e w10 ⟨rfl, x10⟩
              have X10 := Lib.hid (X9.out.trans x10)
              clear x10
              go_wp2_with fail
              go_loopw [120] (fun i wl => ∃ k : Nat, k ≤ cs.length ∧ i = .int .i64 k ∧ Ext w10 wl) (fun i _ => cs.length - (intOf i).toNat)
              case atStart => exact ⟨0, Nat.zero_le _, rfl, Ext.refl _⟩
              case round =>
                obtain ⟨k, hk, rfl, hxl⟩ := hrel
                have HXL := Lib.hid (X10.out.trans hxl)
                have HXW := Lib.hid hxl
                clear hxl
                by_cases hlt : k < cs.length
                · obtain ⟨y, hyk⟩ : ∃ y, cs[k]? = some y := ⟨_, List.getElem?_eq_getElem (by omega)⟩
                  have HBF := Lib.hid (HNB.out k y hlt hyk)
                  obtain ⟨bc, oc, hA, hbl, hrow⟩ := ch_row (HS2.out.ext HXL.out) hyk
                  subst hA
                  have HRW := Lib.hid hrow
                  have E4 := Arr.new wr 54 [.int .i64 0, .int .i64 0, .int .i64 0, .int .i64 0, .int .i64 0]
                  have E5 := E4.setRow y.cells
                  have xa : Ext wr ((wr.alloc (.cells #[.int .i64 0, .int .i64 0, .int .i64 0, .int .i64 0, .int .i64 0] 54)).setRow wr.heap.size y.cells.toArray) := ((Ext.refl wr).alloc _).setRow (Nat.le_refl _) _
                  have X11 := Lib.hid (HXL.out.trans xa)
                  have XA := Lib.hid xa
                  have HE5 := Lib.hid E5
                  clear hrow hyk xa E5
                  go_wp2_with (first
                    | (refine wpList_load_mid rfl 54 (.tmp 122) rfl bc (oc + k * 5) rfl y.cells _ HRW.out Tryd.underlying54 rfl (by kernel_rfl) ?_)
                    | (refine wpList_store_blk 54 (.tmp 19) (.tmp 123) rfl rfl E4 y.cells rfl rfl (by kernel_rfl) rfl rfl ?_)
                    | (refine wpList_load_part 26 (.tmp 127) rfl rfl HE5.out 0 [.int .i64 y.at_.x, .int .i64 y.at_.y, .int .i64 y.at_.z] rfl rfl _ Tryd.underlying26 rfl (by kernel_rfl) ?_) | (refine wpList_load_part 26 (.tmp 127) rfl rfl (HE5.out.alloc _) 0 [.int .i64 y.at_.x, .int .i64 y.at_.y, .int .i64 y.at_.z] rfl rfl _ Tryd.underlying26 rfl (by kernel_rfl) ?_))
                  refine (blocks_at HBF.out (by omega) A c _ (HS.out.ext X11.out)).mono ?_
                  rintro e w12 ⟨rfl, x12⟩
                  have XL2 := Lib.hid (HXW.out.trans (XA.out.trans x12))
                  clear x12
                  go_wp2
                  go_roundw
                  case rel => exact ⟨k + 1, by omega, by go_num, XL2.out⟩
                  case measure => simp [intOf]; omega
                · obtain rfl : k = cs.length := by omega
                  clear hlt
                  go_wp2_with fail
                  refine (sanity_any _ (HL.out.ext HXL.out)).mono ?_
                  rintro e w13 ⟨rfl, x13⟩
                  go_wp2
                  go_ret
                  exact ⟨rfl, HXL.out.trans x13⟩
            | some j =>
              have hqi : idxC (fun x => blocksL ls s now x.at_) cs = j := by unfold idxC; rw [hq]
              rw [hqi, show max (j : Int) 0 = j from by omega, show decide ((0 : Int) ≤ (j : Int)) = true from by simp] at hbk
              obtain ⟨hj1, hj2, hj3⟩ := List.findIdx?_eq_some_iff_getElem.1 hq
              have HNB := Lib.hid (fun (i : Nat) (y : Chg) (hi : i < j) (hy : cs[i]? = some y) => show blocksL ls s now y.at_ = false by
                obtain ⟨h1, rfl⟩ := List.getElem?_eq_some_iff.1 hy
                simpa using hj3 i hi)
              obtain ⟨z, hz⟩ : ∃ z, cs[j]? = some z := ⟨_, List.getElem?_eq_getElem hj1⟩
              have HZ := Lib.hid hz
              have HZB := Lib.hid (show blocksL ls s now z.at_ = true by
                obtain ⟨h1, rfl⟩ := List.getElem?_eq_some_iff.1 hz
                exact hj2)
              have HBK := Lib.hid hbk
              have f1 : decide ((j : Int) < 0) = false := decide_eq_false (by omega)
              have f2 : decide ((cs.length : Int) < (j : Int)) = false := decide_eq_false (by omega)
              have f3 : decide (cs.length < j) = false := decide_eq_false (by omega)
              have f4 : ((j : Int) == (cs.length : Int)) = false := beq_eq_false_iff_ne.2 (by omega)
              clear hq hqi hbk hj2 hj3 hz
              go_wp2_with fail
              refine HBK.out.mono ?_
              rintro e w10 ⟨rfl, x10⟩
              have X10 := Lib.hid (X9.out.trans x10)
              clear x10
              go_wp2_with fail
              go_loopw [120] (fun i wl => ∃ k : Nat, k ≤ j ∧ i = .int .i64 k ∧ Ext w10 wl) (fun i _ => j - (intOf i).toNat)
              case atStart => exact ⟨0, Nat.zero_le _, rfl, Ext.refl _⟩
              case round =>
                obtain ⟨k, hk, rfl, hxl⟩ := hrel
                have HXL := Lib.hid (X10.out.trans hxl)
                have HXW := Lib.hid hxl
                clear hxl
                by_cases hlt : k < j
                · obtain ⟨y, hyk⟩ : ∃ y, cs[k]? = some y := ⟨_, List.getElem?_eq_getElem (by omega)⟩
                  have HBF := Lib.hid (HNB.out k y hlt hyk)
                  obtain ⟨bc, oc, hA, hbl, hrow⟩ := ch_row (HS2.out.ext HXL.out) hyk
                  subst hA
                  have HRW := Lib.hid hrow
                  have E4 := Arr.new wr 54 [.int .i64 0, .int .i64 0, .int .i64 0, .int .i64 0, .int .i64 0]
                  have E5 := E4.setRow y.cells
                  have xa : Ext wr ((wr.alloc (.cells #[.int .i64 0, .int .i64 0, .int .i64 0, .int .i64 0, .int .i64 0] 54)).setRow wr.heap.size y.cells.toArray) := ((Ext.refl wr).alloc _).setRow (Nat.le_refl _) _
                  have X11 := Lib.hid (HXL.out.trans xa)
                  have XA := Lib.hid xa
                  have HE5 := Lib.hid E5
                  clear hrow hyk xa E5
                  go_wp2_with (first
                    | (refine wpList_load_mid rfl 54 (.tmp 122) rfl bc (oc + k * 5) rfl y.cells _ HRW.out Tryd.underlying54 rfl (by kernel_rfl) ?_)
                    | (refine wpList_store_blk 54 (.tmp 19) (.tmp 123) rfl rfl E4 y.cells rfl rfl (by kernel_rfl) rfl rfl ?_)
                    | (refine wpList_load_part 26 (.tmp 127) rfl rfl HE5.out 0 [.int .i64 y.at_.x, .int .i64 y.at_.y, .int .i64 y.at_.z] rfl rfl _ Tryd.underlying26 rfl (by kernel_rfl) ?_) | (refine wpList_load_part 26 (.tmp 127) rfl rfl (HE5.out.alloc _) 0 [.int .i64 y.at_.x, .int .i64 y.at_.y, .int .i64 y.at_.z] rfl rfl _ Tryd.underlying26 rfl (by kernel_rfl) ?_))
                  refine (blocks_at HBF.out (by omega) A c _ (HS.out.ext X11.out)).mono ?_
                  rintro e w12 ⟨rfl, x12⟩
                  have XL2 := Lib.hid (HXW.out.trans (XA.out.trans x12))
                  clear x12
                  go_wp2
                  go_roundw
                  case rel => exact ⟨k + 1, by omega, by go_num, XL2.out⟩
                  case measure => simp [intOf]; omega
                · obtain rfl : k = j := by omega
                  have hj0 : decide ((0 : Int) ≤ (k : Int)) = true := by simp
                  clear hlt
                  go_wp2_with fail
                  refine (sanity_any _ (HL.out.ext HXL.out)).mono ?_
                  rintro e w13 ⟨rfl, x13⟩
                  have X13 := Lib.hid (HXL.out.trans x13)
                  clear x13
                  obtain ⟨bc, oc, hA, hbl, hrow⟩ := ch_row (HS2.out.ext X13.out) HZ.out
                  subst hA
                  have q0 := hrow 0 _ rfl
                  have q1 := hrow 1 _ rfl
                  have q2 := hrow 2 _ rfl
                  simp only [Nat.add_zero] at q0
                  clear hrow
                  go_wp2_with fail
                  refine (blocks_at HZB.out (by omega) A c _ (HS.out.ext X13.out)).mono ?_
                  rintro e w14 ⟨rfl, x14⟩
                  go_wp2
                  go_ret
                  exact ⟨rfl, X13.out.trans x14⟩
end Go.Proofs.YtjceebpafnnffaaDoor

namespace Go.Proofs.YtjceebpafnnffaaDoor
open Go Go.RowKit Go.ChangeShapes Go.WideShapes Go.ChangeAt

theorem u8b {n : Int} (h : (Lit.int .u8 n).wf = true) : 0 ≤ n ∧ n ≤ 255 := by simpa [Lit.wf, IntKind.min, IntKind.max, IntKind.signed, IntKind.bits] using h
set_option maxHeartbeats 1600000 in
set_option maxRecDepth 100000 in
theorem lockOwners_lifted (os : Os) (started : os.Started) (H : Type) (enc : TypeId × Value → H) :
    ReturnsInHanded {} Tryd.checked os 8 .any (fun w args => (Rows.lockOwnersSpec.pre enc Tryd.prog Tryd.f8 Rows.lockOwnersRow.domain false w args ∧ laidMetH Tryd.prog laidL w) ∧ sizedMet enc Tryd.prog Tryd.f8 (OpenSpec.ofChange Rows.lockOwnersSpec) false w args) (Rows.lockOwnersSpec.post enc Tryd.prog Tryd.f8 false true false false) := by
  refine returnsInHanded_of_change_and (C := Tryd.checked) (X := fun w _ => laidMetH Tryd.prog laidL w) (fun _ _ _ hh h => h.of_heap hh) own_ started (by kernel_rfl) Tryd.func8
    (ChangeSpec.witness_shaped (enc := enc) (C := Tryd.checked) (os := os) (X := fun w _ => laidMetH Tryd.prog laidL w) false (World.laidAll Tryd.prog os laidL) #[.slice none 0 0, .int .u8 0, .int .i64 0, .agg #[.int .i64 0, .int .i64 0, .int .i64 0], .slice none 0 0] 8 (World.laidAll_os _ _ _) (World.shaped_of_ZipB (by kernel_rfl) (by kernel_rfl)) (by kernel_rfl) (by kernel_rfl) (by kernel_rfl)
      (by rw [MakeChecks.laidMetH_plain _ _ _ (by kernel_rfl)]; exact laidMet_laidAll _ (by kernel_rfl) (by kernel_rfl))) ?_
  intro W base args ds gs before hval0 hW hcnd _ hLd _
  have hval : ∀ (j : Nat) t v, Tryd.f8.params[j]? = some t → args[j]? = some v → Value.okWide Tryd.prog W .any base t v := hval0
  have hLd := laid_of hLd
  have hW' := hW
  obtain ⟨p, q, hA0, hV, rfl, hfz, hnd⟩ := hW
  have hA : DataW.TrodAll enc Tryd.prog W 0 (fun _ => true) true Tryd.f8.params.toList args.toList ds p := hA0
  have hAll := hA
  rw [Tryd.params8] at hA hval
  obtain ⟨v0, vs0, d0, ds0, p0, q0, ha, rfl, rfl, h0, r0⟩ := trodAll_cons hA
  obtain ⟨v1, vs1, d1, ds1, p1, q1, rfl, rfl, rfl, h1, r1⟩ := trodAll_cons r0
  obtain ⟨v2, vs2, d2, ds2, p2, q2, rfl, rfl, rfl, h2, r2⟩ := trodAll_cons r1
  obtain ⟨v3, vs3, d3, ds3, p3, q3, rfl, rfl, rfl, h3, r3⟩ := trodAll_cons r2
  obtain ⟨v4, vs4, d4, ds4, p4, q4, rfl, rfl, rfl, h4, r4⟩ := trodAll_cons r3
  obtain ⟨rfl, rfl, rfl⟩ := trodAll_nil r4
  obtain ⟨rfl, rfl⟩ := trodVars_none hV
  have hargs : args = #[v0, v1, v2, v3, v4] := by apply Array.ext'; exact ha
  subst hargs
  obtain ⟨A, c, l, rfl, hs⟩ := read_locks (hval 0 _ _ rfl rfl) h0
  obtain ⟨site, rfl, rfl, rfl, hwa⟩ := open_int Tryd.underlying5 (hval 1 _ _ rfl rfl) h1
  obtain ⟨now, rfl, rfl, rfl, _⟩ := open_int Tryd.underlying3 (hval 2 _ _ rfl rfl) h2
  obtain ⟨p, rfl⟩ := read_Pt (hval 3 _ _ rfl rfl) h3
  obtain ⟨A2, c2, cs, rfl, hs2⟩ := read_changes (hval 4 _ _ rfl rfl) h4
  refine (LockOwners_any A A2 c c2 l cs site now p W hs hs2 (u8b hwa) hLd).mono fun e W' ⟨he, hx⟩ => ?_
  subst he
  have hlt : ∀ x, x ∈ (p0 ++ ([] ++ ([] ++ (p3 ++ (p4 ++ []))))) → x.block < W.heap.size := fun x hx2 => hW'.lt x (by simpa using hx2)
  exact ⟨_, rfl, _, _, _, [], _, [], hW', trodAll_mk1 (shut_bool Tryd.underlying4 true), args_below laidOut_ _ _ _ _ W' (by rw [Tryd.params8]; intro t ht; simp at ht; rcases ht with rfl | rfl | rfl | rfl | rfl <;> exact ⟨by kernel_rfl, of_decide_eq_true (by kernel_rfl)⟩) hAll hx.below hlt, rfl, hx.below.frame _, fun h => by cases h⟩

theorem lockOwners_row : Rows.LockOwnersSaid :=
  OpenClaim.holds_of_wide 8 Tryd.f8 rfl rfl rfl rfl rfl rfl rfl ⟨rfl, rfl, rfl, rfl, rfl⟩ rfl rfl rfl rfl rfl (by kernel_rfl) Tryd.func8 (by kernel_rfl)
    (of_decide_eq_true (by kernel_rfl)) (by unfold Func.isWrapper; rw [if_neg (of_decide_eq_false (by kernel_rfl))]; exact ⟨rfl, rfl⟩)
    (fun os started H enc _ => lockOwners_lifted os started H enc)

theorem lockOwners_holds : Rows.LockOwnersCardSaid :=
  Claim7.holds_tied_plain_at .later [] [.data, .data] true Rows.lockOwnersCard.stood.harness false
    lockOwners_row (fun _ h => by cases h) (by kernel_rfl) (fun _ h => by cases h) lockOwners_row_tie rfl ⟨rfl, rfl⟩ (by kernel_rfl) rfl
    (fun f fn hf hfn => by
      obtain rfl : f = 8 := Option.some.inj ((show Tryd.prog.funcNamed "voxel/voxellaw28.LockOwners" = some 8 by kernel_rfl).symm.trans hf) |>.symm
      obtain rfl : fn = Tryd.f8 := (Option.some.inj (Tryd.func8.symm.trans hfn)).symm
      exact ⟨by kernel_rfl, fun j t ht => by
        rw [Tryd.params8] at ht
        have hm : t ∈ [22, 5, 3, 26, 31] := by simpa using Array.mem_of_getElem? ht
        have hall : ([22, 5, 3, 26, 31].all fun u => !Tryd.prog.wantsStandIn u) = true := by kernel_rfl
        exact (show Tryd.prog.wantsStandIn t = false by simpa using List.all_eq_true.1 hall t hm)⟩)
    (by kernel_rfl)
end Go.Proofs.YtjceebpafnnffaaDoor
