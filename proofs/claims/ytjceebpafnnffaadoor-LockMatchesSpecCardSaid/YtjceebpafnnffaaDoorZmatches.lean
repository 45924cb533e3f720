/- LockFrees, walked. · LockBlocksOthers, walked. · A region that draws its order: what each operation yields is known by a property that stays true while memory grows. Calls that make memory are let in. · LockMatchesSpec, walked. · LockMatchesSpec: for every input the law returns true, and each argument reads as it did. No condition. -/
import Derived.Test.YtjceebpafnnffaaDoorTie
import Derived.Test.YtjceebpafnnffaaDoorCards
import Derived.LaidLaws
import Derived.SevenTiedAt
import Derived.Test.YtjceebpafnnffaaDoorZa8
namespace Go.Proofs.YtjceebpafnnffaaDoor
open Go Go.RowKit

theorem few_VT {ls : List Lk} (h : (decide (ls.length ≤ 60) && validR ls) = true) : VT ls ∧ ls.length ≤ 60 := by
  rw [Bool.and_eq_true, decide_eq_true_eq, validR_VT] at h
  exact ⟨h.2, h.1⟩
theorem takeP_at {ls : List Lk} {x : Ed} (hv : VT ls) (hw : fits x) (hb : ls.length ≤ 1000000) (A : Option Addr) (c : Nat) (w : World) (hs : Sv w w.heap.size 9 A c (rowsL ls)) (hL : Laid w) :
    Calls Tryd.prog 11 #[.slice A ls.length c, .agg #[.int .i64 x.st.tick, .int .i64 x.st.clock, .int .i64 x.st.site, .int .i64 x.st.seq, .int .i64 x.kind, .int .i64 x.box.lo.x, .int .i64 x.box.lo.y, .int .i64 x.box.lo.z, .int .i64 x.box.hi.x, .int .i64 x.box.hi.y, .int .i64 x.box.hi.z, .int .i64 x.at_.x, .int .i64 x.at_.y, .int .i64 x.at_.z, .int .i64 x.turn, .int .i64 x.cell, .int .i64 x.size]] w (RetTS (takeR ls x).1 (takeR ls x).2 w) := by
  have h1 := LTake_any A c ls x w hs hb hL.rows hv.sorted
  rw [take_eq hv hw] at h1
  exact h1.mono fun _ _ h => h.read
theorem freeP_at {ls : List Lk} {x : Ed} (hv : VT ls) (hw : fits x) (hb : ls.length ≤ 1000000) (A : Option Addr) (c : Nat) (w : World) (hs : Sv w w.heap.size 9 A c (rowsL ls)) (hL : Laid w) :
    Calls Tryd.prog 13 #[.slice A ls.length c, .agg #[.int .i64 x.st.tick, .int .i64 x.st.clock, .int .i64 x.st.site, .int .i64 x.st.seq, .int .i64 x.kind, .int .i64 x.box.lo.x, .int .i64 x.box.lo.y, .int .i64 x.box.lo.z, .int .i64 x.box.hi.x, .int .i64 x.box.hi.y, .int .i64 x.box.hi.z, .int .i64 x.at_.x, .int .i64 x.at_.y, .int .i64 x.at_.z, .int .i64 x.turn, .int .i64 x.cell, .int .i64 x.size]] w (RetTS (freeR ls x).1 (freeR ls x).2 w) := by
  have h1 := LFree_any A c ls x w hs hb hL.rows hv.sorted
  rw [free_eq hv hw] at h1
  exact h1.mono fun _ _ h => h.read
theorem fits_undo (x : Ed) : fits (undoE x) := ⟨by show (0:Int) ≤ _; decide, by show (0:Int) ≤ _; decide, by show (0:Int) ≤ _; decide⟩
set_option maxRecDepth 100000 in
set_option maxHeartbeats 8000000 in
theorem LockFrees_any (A : Option Addr) (c : Nat) (ls : List Lk) (x : Ed) (w : World) (hs : Sv w w.heap.size 9 A c (rowsL ls)) (hw : fits x) (hL : Laid w) :
    Calls Tryd.prog 7 #[.slice A ls.length c, .agg #[.int .i64 x.st.tick, .int .i64 x.st.clock, .int .i64 x.st.site, .int .i64 x.st.seq, .int .i64 x.kind, .int .i64 x.box.lo.x, .int .i64 x.box.lo.y, .int .i64 x.box.lo.z, .int .i64 x.box.hi.x, .int .i64 x.box.hi.y, .int .i64 x.box.hi.z, .int .i64 x.at_.x, .int .i64 x.at_.y, .int .i64 x.at_.z, .int .i64 x.turn, .int .i64 x.cell, .int .i64 x.size]] w fun e w' => e = .returned (.bool true) ∧ Ext w w' := by
  have HS := Lib.hid hs
  have HL := Lib.hid hL
  have HW := Lib.hid hw
  have HFW := Lib.hid (fun (w' : World) (hx : Ext w w') => few_any A c ls w' (HS.out.ext hx))
  clear hs hL hw
  cases hf : decide (ls.length ≤ 60) && validR ls
  · rw [hf] at HFW
    clear hf
    go_enter Tryd.func7, Tryd.ntmps7
    go_upto_region 1 with fail
    obtain ⟨W0, hW⟩ : ∃ W, W = w.alloc (.cells #[.int .i64 x.st.tick, .int .i64 x.st.clock, .int .i64 x.st.site, .int .i64 x.st.seq, .int .i64 x.kind, .int .i64 x.box.lo.x, .int .i64 x.box.lo.y, .int .i64 x.box.lo.z, .int .i64 x.box.hi.x, .int .i64 x.box.hi.y, .int .i64 x.box.hi.z, .int .i64 x.at_.x, .int .i64 x.at_.y, .int .i64 x.at_.z, .int .i64 x.turn, .int .i64 x.cell, .int .i64 x.size] 30) := ⟨_, rfl⟩
    have hx0 : Ext w W0 := by rw [hW]; exact (Ext.refl w).alloc _
    have B0 : Arr W0 w.heap.size 30 [.int .i64 x.st.tick, .int .i64 x.st.clock, .int .i64 x.st.site, .int .i64 x.st.seq, .int .i64 x.kind, .int .i64 x.box.lo.x, .int .i64 x.box.lo.y, .int .i64 x.box.lo.z, .int .i64 x.box.hi.x, .int .i64 x.box.hi.y, .int .i64 x.box.hi.z, .int .i64 x.at_.x, .int .i64 x.at_.y, .int .i64 x.at_.z, .int .i64 x.turn, .int .i64 x.cell, .int .i64 x.size] := by rw [hW]; exact Arr.new w _ _
    rw [← hW]
    clear hW
    have cB0 := B0.cell
    have fB0 := B0.frozen
    have lB0 := B0.lt
    go_wp2_with fail
    refine (HFW.out _ hx0).mono ?_
    rintro e w1 ⟨rfl, x1⟩
    go_wp2_with fail
    refine (sanity_any _ (HL.out.ext (hx0.trans x1))).mono ?_
    rintro e w2 ⟨rfl, x2⟩
    go_wp2
    go_ret
    exact ⟨rfl, (hx0.trans x1).trans x2⟩
  · rw [hf] at HFW
    obtain ⟨hv, hb⟩ := few_VT hf
    have HV := Lib.hid hv
    clear hf hv
    by_cases hsq : 1000 ≤ x.st.seq
    · have hd : decide ((1000 : Int) ≤ x.st.seq) = true := decide_eq_true hsq
      clear hsq
      go_enter Tryd.func7, Tryd.ntmps7
      go_upto_region 1 with fail
      obtain ⟨W0, hW⟩ : ∃ W, W = w.alloc (.cells #[.int .i64 x.st.tick, .int .i64 x.st.clock, .int .i64 x.st.site, .int .i64 x.st.seq, .int .i64 x.kind, .int .i64 x.box.lo.x, .int .i64 x.box.lo.y, .int .i64 x.box.lo.z, .int .i64 x.box.hi.x, .int .i64 x.box.hi.y, .int .i64 x.box.hi.z, .int .i64 x.at_.x, .int .i64 x.at_.y, .int .i64 x.at_.z, .int .i64 x.turn, .int .i64 x.cell, .int .i64 x.size] 30) := ⟨_, rfl⟩
      have hx0 : Ext w W0 := by rw [hW]; exact (Ext.refl w).alloc _
      have B0 : Arr W0 w.heap.size 30 [.int .i64 x.st.tick, .int .i64 x.st.clock, .int .i64 x.st.site, .int .i64 x.st.seq, .int .i64 x.kind, .int .i64 x.box.lo.x, .int .i64 x.box.lo.y, .int .i64 x.box.lo.z, .int .i64 x.box.hi.x, .int .i64 x.box.hi.y, .int .i64 x.box.hi.z, .int .i64 x.at_.x, .int .i64 x.at_.y, .int .i64 x.at_.z, .int .i64 x.turn, .int .i64 x.cell, .int .i64 x.size] := by rw [hW]; exact Arr.new w _ _
      rw [← hW]
      clear hW
      have cB0 := B0.cell
      have fB0 := B0.frozen
      have lB0 := B0.lt
      go_wp2_with fail
      refine (HFW.out _ hx0).mono ?_
      rintro e w1 ⟨rfl, x1⟩
      have B1 := Arr.ext B0 x1
      have cB1 := B1.cell
      go_wp2_with fail
      refine (sanity_any _ (HL.out.ext (hx0.trans x1))).mono ?_
      rintro e w2 ⟨rfl, x2⟩
      go_wp2
      go_ret
      exact ⟨rfl, (hx0.trans x1).trans x2⟩
    · have hd : decide ((1000 : Int) ≤ x.st.seq) = false := decide_eq_false hsq
      have HSQ := Lib.hid (show x.st.seq < 1000 by omega)
      clear hsq
      go_enter Tryd.func7, Tryd.ntmps7
      go_upto_region 1 with fail
      obtain ⟨W0, hW⟩ : ∃ W, W = w.alloc (.cells #[.int .i64 x.st.tick, .int .i64 x.st.clock, .int .i64 x.st.site, .int .i64 x.st.seq, .int .i64 x.kind, .int .i64 x.box.lo.x, .int .i64 x.box.lo.y, .int .i64 x.box.lo.z, .int .i64 x.box.hi.x, .int .i64 x.box.hi.y, .int .i64 x.box.hi.z, .int .i64 x.at_.x, .int .i64 x.at_.y, .int .i64 x.at_.z, .int .i64 x.turn, .int .i64 x.cell, .int .i64 x.size] 30) := ⟨_, rfl⟩
      have hx0 : Ext w W0 := by rw [hW]; exact (Ext.refl w).alloc _
      have B0 : Arr W0 w.heap.size 30 [.int .i64 x.st.tick, .int .i64 x.st.clock, .int .i64 x.st.site, .int .i64 x.st.seq, .int .i64 x.kind, .int .i64 x.box.lo.x, .int .i64 x.box.lo.y, .int .i64 x.box.lo.z, .int .i64 x.box.hi.x, .int .i64 x.box.hi.y, .int .i64 x.box.hi.z, .int .i64 x.at_.x, .int .i64 x.at_.y, .int .i64 x.at_.z, .int .i64 x.turn, .int .i64 x.cell, .int .i64 x.size] := by rw [hW]; exact Arr.new w _ _
      rw [← hW]
      clear hW
      have cB0 := B0.cell
      have fB0 := B0.frozen
      have lB0 := B0.lt
      go_wp2_with fail
      refine (HFW.out _ hx0).mono ?_
      rintro e w1 ⟨rfl, x1⟩
      have B1 := Arr.ext B0 x1
      have cB1 := B1.cell
      have X1 := Lib.hid (hx0.trans x1)
      clear x1 hx0 cB0 B0 fB0 lB0
      go_wp2_with (first | (refine wpList_load_blk 30 (.tmp 3) rfl rfl B1 rfl _ Tryd.underlying30 rfl (by kernel_rfl) ?_) | (refine wpList_load_blk 30 (.tmp 3) rfl rfl (B1.alloc _) rfl _ Tryd.underlying30 rfl (by kernel_rfl) ?_) | (refine wpList_load_blk 30 (.tmp 3) rfl rfl ((B1.alloc _).alloc _) rfl _ Tryd.underlying30 rfl (by kernel_rfl) ?_))
      refine (takeP_at HV.out HW.out (by omega) A c w1 (HS.out.ext X1.out) (HL.out.ext X1.out)).mono ?_
      rintro e w2 ⟨A2, c2, rfl, s2, x2⟩
      have X2 := Lib.hid (X1.out.trans x2)
      have B2 := Arr.ext B1 x2
      have cB2 := B2.cell
      clear x2 cB1 B1
      by_cases he : (takeR ls x).2 = 0
      · have hub := undo_facts he HSQ.out
        have htv := take_VT (x := x) HV.out
        have htl := take_len1 ls x
        have HUB := Lib.hid hub
        have HTV := Lib.hid htv
        have hg := (lock_good (take_ok he).1).1
        have hsq1 : 1 ≤ x.st.seq := hg.seq.1
        have hsq2 := HSQ.out
        have HFE := Lib.hid (fun w' => show Calls Tryd.prog 28 #[.int .i64 x.st.tick, .int .i64 x.st.site, .int .i64 (x.st.seq + 1), .int .i64 x.st.seq] w' fun e w'' => e = .returned (.agg #[.int .i64 (undoE x).st.tick, .int .i64 (undoE x).st.clock, .int .i64 (undoE x).st.site, .int .i64 (undoE x).st.seq, .int .i64 (undoE x).kind, .int .i64 (undoE x).box.lo.x, .int .i64 (undoE x).box.lo.y, .int .i64 (undoE x).box.lo.z, .int .i64 (undoE x).box.hi.x, .int .i64 (undoE x).box.hi.y, .int .i64 (undoE x).box.hi.z, .int .i64 (undoE x).at_.x, .int .i64 (undoE x).at_.y, .int .i64 (undoE x).at_.z, .int .i64 (undoE x).turn, .int .i64 (undoE x).cell, .int .i64 (undoE x).size]) ∧ Ext w' w'' from lawfree_any x.st.tick x.st.site (x.st.seq + 1) x.st.seq w')
        clear hub htv hg
        rw [he]
        clear he
        go_wp2_with fail
        refine (HFE.out _).mono ?_
        rintro e w3 ⟨rfl, x3⟩
        have X3 := Lib.hid (X2.out.trans x3)
        have S3 := Lib.hid (s2.ext x3)
        have B3 := Arr.ext B2 x3
        have D4 := Arr.new w3 30 [.int .i64 zeroEd.st.tick, .int .i64 zeroEd.st.clock, .int .i64 zeroEd.st.site, .int .i64 zeroEd.st.seq, .int .i64 zeroEd.kind, .int .i64 zeroEd.box.lo.x, .int .i64 zeroEd.box.lo.y, .int .i64 zeroEd.box.lo.z, .int .i64 zeroEd.box.hi.x, .int .i64 zeroEd.box.hi.y, .int .i64 zeroEd.box.hi.z, .int .i64 zeroEd.at_.x, .int .i64 zeroEd.at_.y, .int .i64 zeroEd.at_.z, .int .i64 zeroEd.turn, .int .i64 zeroEd.cell, .int .i64 zeroEd.size]
        have D5 := D4.setRow [.int .i64 (undoE x).st.tick, .int .i64 (undoE x).st.clock, .int .i64 (undoE x).st.site, .int .i64 (undoE x).st.seq, .int .i64 (undoE x).kind, .int .i64 (undoE x).box.lo.x, .int .i64 (undoE x).box.lo.y, .int .i64 (undoE x).box.lo.z, .int .i64 (undoE x).box.hi.x, .int .i64 (undoE x).box.hi.y, .int .i64 (undoE x).box.hi.z, .int .i64 (undoE x).at_.x, .int .i64 (undoE x).at_.y, .int .i64 (undoE x).at_.z, .int .i64 (undoE x).turn, .int .i64 (undoE x).cell, .int .i64 (undoE x).size]
        have xa : Ext w3 ((w3.alloc (.cells [.int .i64 zeroEd.st.tick, .int .i64 zeroEd.st.clock, .int .i64 zeroEd.st.site, .int .i64 zeroEd.st.seq, .int .i64 zeroEd.kind, .int .i64 zeroEd.box.lo.x, .int .i64 zeroEd.box.lo.y, .int .i64 zeroEd.box.lo.z, .int .i64 zeroEd.box.hi.x, .int .i64 zeroEd.box.hi.y, .int .i64 zeroEd.box.hi.z, .int .i64 zeroEd.at_.x, .int .i64 zeroEd.at_.y, .int .i64 zeroEd.at_.z, .int .i64 zeroEd.turn, .int .i64 zeroEd.cell, .int .i64 zeroEd.size].toArray 30)).setRow w3.heap.size [.int .i64 (undoE x).st.tick, .int .i64 (undoE x).st.clock, .int .i64 (undoE x).st.site, .int .i64 (undoE x).st.seq, .int .i64 (undoE x).kind, .int .i64 (undoE x).box.lo.x, .int .i64 (undoE x).box.lo.y, .int .i64 (undoE x).box.lo.z, .int .i64 (undoE x).box.hi.x, .int .i64 (undoE x).box.hi.y, .int .i64 (undoE x).box.hi.z, .int .i64 (undoE x).at_.x, .int .i64 (undoE x).at_.y, .int .i64 (undoE x).at_.z, .int .i64 (undoE x).turn, .int .i64 (undoE x).cell, .int .i64 (undoE x).size].toArray) := ((Ext.refl w3).alloc _).setRow (Nat.le_refl _) _
        have X4 := Lib.hid (X3.out.trans xa)
        have S4 := Lib.hid (S3.out.ext xa)
        have B4 := Arr.ext B3 xa
        clear x3 s2 B2 B3 cB2 xa hsq1 hsq2
        generalize hml : (takeR ls x).1 = ml at S3 S4 HUB HTV htl
        have HML := Lib.hid hml
        clear hml
        go_wp2_with (first | (refine wpList_store_blk 30 (.tmp 7) (.tmp 46) rfl rfl D4 [.int .i64 (undoE x).st.tick, .int .i64 (undoE x).st.clock, .int .i64 (undoE x).st.site, .int .i64 (undoE x).st.seq, .int .i64 (undoE x).kind, .int .i64 (undoE x).box.lo.x, .int .i64 (undoE x).box.lo.y, .int .i64 (undoE x).box.lo.z, .int .i64 (undoE x).box.hi.x, .int .i64 (undoE x).box.hi.y, .int .i64 (undoE x).box.hi.z, .int .i64 (undoE x).at_.x, .int .i64 (undoE x).at_.y, .int .i64 (undoE x).at_.z, .int .i64 (undoE x).turn, .int .i64 (undoE x).cell, .int .i64 (undoE x).size] rfl rfl (by kernel_rfl) rfl rfl ?_) | (refine wpList_load_blk 30 (.tmp 7) rfl rfl D5 rfl _ Tryd.underlying30 rfl (by kernel_rfl) ?_) | (refine wpList_load_blk 30 (.tmp 7) rfl rfl (D5.alloc _) rfl _ Tryd.underlying30 rfl (by kernel_rfl) ?_) | (refine wpList_load_blk 30 (.tmp 7) rfl rfl ((D5.alloc _).alloc _) rfl _ Tryd.underlying30 rfl (by kernel_rfl) ?_))
        have h5 := freeP_at (x := undoE x) HTV.out (fits_undo x) (by omega) A2 c2 _ S4.out (HL.out.ext X4.out)
        rw [HUB.out.1] at h5
        refine h5.mono ?_
        rintro e w5 ⟨A5, c5, rfl, s5, x5⟩
        have X5 := Lib.hid (X4.out.trans x5)
        have S5 := Lib.hid (S4.out.ext x5)
        have D6 := Arr.ext D5 x5
        have B5 := Arr.ext B4 x5
        clear x5 h5 D5 D4 B4
        have hfl := filter_len (livesL x.st.tick) ls
        have HLV := Lib.hid (HV.out.filter (livesL x.st.tick))
        have HEX := Lib.hid (fun (w' : World) (hx : Ext w w') => (Expire_any A c ls w' (HS.out.ext hx) (by omega) x.st.tick).mono fun _ _ h => RetL.read h)
        generalize ls.filter (livesL x.st.tick) = lv at s5 HUB HLV HEX hfl ⊢
        go_wp2_with (first | (refine wpList_load_blk 30 (.tmp 7) rfl rfl D6 rfl _ Tryd.underlying30 rfl (by kernel_rfl) ?_) | (refine wpList_load_blk 30 (.tmp 7) rfl rfl (D6.alloc _) rfl _ Tryd.underlying30 rfl (by kernel_rfl) ?_) | (refine wpList_load_blk 30 (.tmp 7) rfl rfl ((D6.alloc _).alloc _) rfl _ Tryd.underlying30 rfl (by kernel_rfl) ?_))
        have h6 := freeP_at (x := undoE x) HLV.out (fits_undo x) (by omega) A5 c5 _ s5 (HL.out.ext X5.out)
        rw [HUB.out.2.1] at h6
        refine h6.mono ?_
        rintro e w6 ⟨A6, c6, rfl, _, x6⟩
        have X6 := Lib.hid (X5.out.trans x6)
        have S6 := Lib.hid (S5.out.ext x6)
        have s6 := s5.ext x6
        have B6 := Arr.ext B5 x6
        clear x6 h6 s5 D6 B5
        generalize (freeR lv (undoE x)).1 = m2
        go_wp2_with (first | (refine wpList_load_blk 30 (.tmp 3) rfl rfl B6 rfl _ Tryd.underlying30 rfl (by kernel_rfl) ?_) | (refine wpList_load_blk 30 (.tmp 3) rfl rfl (B6.alloc _) rfl _ Tryd.underlying30 rfl (by kernel_rfl) ?_) | (refine wpList_load_blk 30 (.tmp 3) rfl rfl ((B6.alloc _).alloc _) rfl _ Tryd.underlying30 rfl (by kernel_rfl) ?_))
        have h7 := takeP_at (x := x) HTV.out HW.out (by omega) A2 c2 _ S6.out (HL.out.ext X6.out)
        rw [HUB.out.2.2] at h7
        refine h7.mono ?_
        rintro e w7 ⟨A7, c7, rfl, _, x7⟩
        have X7 := Lib.hid (X6.out.trans x7)
        have s7 := s6.ext x7
        have B7 := Arr.ext B6 x7
        clear x7 h7 s6 B6
        generalize (takeR ml x).1 = m3
        go_wp2_with fail
        refine (sanity_any _ (HL.out.ext X7.out)).mono ?_
        rintro e w8 ⟨rfl, x8⟩
        have X8 := Lib.hid (X7.out.trans x8)
        have s8 := s7.ext x8
        have B8 := Arr.ext B7 x8
        have cB8 := B8.cell
        clear x8 s7 B7 B8
        go_wp2_with fail
        refine (HEX.out _ X8.out).mono ?_
        rintro e w9 ⟨A9, c9, rfl, s9, x9⟩
        have X9 := Lib.hid (X8.out.trans x9)
        have s8 := s8.ext x9
        clear cB8 x9
        go_wp2_with fail
        refine (refSame_any A5 A9 c5 c9 lv lv w9 s8 s9).mono ?_
        rintro e w10 ⟨rfl, x10⟩
        rw [decide_eq_true rfl]
        go_wp2
        go_ret
        exact ⟨rfl, X9.out.trans x10⟩
      · have hne : ((takeR ls x).2 == 0) = false := by simpa using he
        clear he
        generalize (takeR ls x).2 = er at hne ⊢
        go_wp2_with fail
        refine (sanity_any _ (HL.out.ext X2.out)).mono ?_
        rintro e w3 ⟨rfl, x3⟩
        go_wp2
        go_ret
        exact ⟨rfl, X2.out.trans x3⟩
end Go.Proofs.YtjceebpafnnffaaDoor

namespace Go.Proofs.YtjceebpafnnffaaDoor
open Go Go.RowKit

theorem blocks_def (ls : List Lk) (site now : Int) (p : Pt) : blocksL ls site now p = (decide (ownerL ls now p ≠ 0) && decide (ownerL ls now p ≠ site)) := rfl
set_option maxRecDepth 100000 in
set_option maxHeartbeats 16000000 in
theorem LockBlocksOthers_any (A : Option Addr) (c : Nat) (ls : List Lk) (x : Ed) (later site : Int) (p : Pt) (w : World) (hs : Sv w w.heap.size 9 A c (rowsL ls)) (hw : fits x) (h1 : 0 ≤ later ∧ later ≤ 255) (h2 : 0 ≤ site ∧ site ≤ 255) (hL : Laid w) :
    Calls Tryd.prog 6 #[.slice A ls.length c, .agg #[.int .i64 x.st.tick, .int .i64 x.st.clock, .int .i64 x.st.site, .int .i64 x.st.seq, .int .i64 x.kind, .int .i64 x.box.lo.x, .int .i64 x.box.lo.y, .int .i64 x.box.lo.z, .int .i64 x.box.hi.x, .int .i64 x.box.hi.y, .int .i64 x.box.hi.z, .int .i64 x.at_.x, .int .i64 x.at_.y, .int .i64 x.at_.z, .int .i64 x.turn, .int .i64 x.cell, .int .i64 x.size], .int .u8 later, .int .u8 site, .agg #[.int .i64 p.x, .int .i64 p.y, .int .i64 p.z]] w fun e w' => e = .returned (.bool true) ∧ Ext w w' := by
  have hm := mixed
  have hG := near_old
  have HS := Lib.hid hs
  have HL := Lib.hid hL
  have HW := Lib.hid hw
  have HFW := Lib.hid (fun (w' : World) (hx : Ext w w') => few_any A c ls w' (HS.out.ext hx))
  have B0 := (Arr.new w 30 [.int .i64 x.st.tick, .int .i64 x.st.clock, .int .i64 x.st.site, .int .i64 x.st.seq, .int .i64 x.kind, .int .i64 x.box.lo.x, .int .i64 x.box.lo.y, .int .i64 x.box.lo.z, .int .i64 x.box.hi.x, .int .i64 x.box.hi.y, .int .i64 x.box.hi.z, .int .i64 x.at_.x, .int .i64 x.at_.y, .int .i64 x.at_.z, .int .i64 x.turn, .int .i64 x.cell, .int .i64 x.size]).alloc (.cells #[.int .i64 p.x, .int .i64 p.y, .int .i64 p.z] 26)
  have D0 := Arr.new1 w (.cells #[.int .i64 x.st.tick, .int .i64 x.st.clock, .int .i64 x.st.site, .int .i64 x.st.seq, .int .i64 x.kind, .int .i64 x.box.lo.x, .int .i64 x.box.lo.y, .int .i64 x.box.lo.z, .int .i64 x.box.hi.x, .int .i64 x.box.hi.y, .int .i64 x.box.hi.z, .int .i64 x.at_.x, .int .i64 x.at_.y, .int .i64 x.at_.z, .int .i64 x.turn, .int .i64 x.cell, .int .i64 x.size] 30) 26 [.int .i64 p.x, .int .i64 p.y, .int .i64 p.z]
  have hx0 : Ext w ((w.alloc (.cells #[.int .i64 x.st.tick, .int .i64 x.st.clock, .int .i64 x.st.site, .int .i64 x.st.seq, .int .i64 x.kind, .int .i64 x.box.lo.x, .int .i64 x.box.lo.y, .int .i64 x.box.lo.z, .int .i64 x.box.hi.x, .int .i64 x.box.hi.y, .int .i64 x.box.hi.z, .int .i64 x.at_.x, .int .i64 x.at_.y, .int .i64 x.at_.z, .int .i64 x.turn, .int .i64 x.cell, .int .i64 x.size] 30)).alloc (.cells #[.int .i64 p.x, .int .i64 p.y, .int .i64 p.z] 26)) := ((Ext.refl w).alloc _).alloc _
  have X0 := Lib.hid hx0
  have HB0 := Lib.hid B0
  have HD0 := Lib.hid D0
  clear hs hL hw B0 D0 hx0
  cases hf : decide (ls.length ≤ 60) && validR ls
  · rw [hf] at HFW
    clear hf
    go_enter Tryd.func6, Tryd.ntmps6
    go_wp2_with fail
    refine (HFW.out _ X0.out).mono ?_
    rintro e w1 ⟨rfl, x1⟩
    go_wp2_with fail
    refine (sanity_any _ (HL.out.ext (X0.out.trans x1))).mono ?_
    rintro e w2 ⟨rfl, x2⟩
    go_wp2
    go_ret
    exact ⟨rfl, (X0.out.trans x1).trans x2⟩
  · rw [hf] at HFW
    obtain ⟨hv, hb⟩ := few_VT hf
    have HV := Lib.hid hv
    clear hf hv
    go_enter Tryd.func6, Tryd.ntmps6
    go_wp2_with fail
    refine (HFW.out _ X0.out).mono ?_
    rintro e w1 ⟨rfl, x1⟩
    have X1 := Lib.hid (X0.out.trans x1)
    have B1 := Arr.ext HB0.out x1
    have HD1 := Lib.hid (Arr.ext HD0.out x1)
    clear x1
    go_wp2_with (first | (refine wpList_load_blk 30 (.tmp 6) rfl rfl B1 rfl _ Tryd.underlying30 rfl (by kernel_rfl) ?_) | (refine wpList_load_blk 30 (.tmp 6) rfl rfl (B1.alloc _) rfl _ Tryd.underlying30 rfl (by kernel_rfl) ?_) | (refine wpList_load_blk 30 (.tmp 6) rfl rfl ((B1.alloc _).alloc _) rfl _ Tryd.underlying30 rfl (by kernel_rfl) ?_))
    refine (takeP_at HV.out HW.out (by omega) A c w1 (HS.out.ext X1.out) (HL.out.ext X1.out)).mono ?_
    rintro e w2 ⟨A2, c2, rfl, s2, x2⟩
    have X2 := Lib.hid (X1.out.trans x2)
    have B2 := Arr.ext B1 x2
    have HB2 := Lib.hid B2
    have HD2 := Lib.hid (Arr.ext HD1.out x2)
    have S2 := Lib.hid s2
    clear x2 B1 B2 s2
    by_cases he : (takeR ls x).2 = 0
    · have HE := Lib.hid he
      have HTV := Lib.hid (take_VT (x := x) HV.out)
      have htl := take_len1 ls x
      have hlg := lock_good (take_ok he).1
      have ht0 := hlg.2.2
      have ht1 := hlg.2.1
      have ht2 : x.size ≤ 4000 := hlg.1.til.2
      have hsite : 1 ≤ x.st.site ∧ x.st.site ≤ 8 := hlg.1.site
      have HNH := Lib.hid (fun (hp : ¬ (inP p x.box = true ∧ x.st.tick + later ≤ x.size)) => take_else HV.out he (show x.st.tick ≤ x.st.tick + later by omega) hp)
      have HYH := Lib.hid (fun (hp : inP p x.box = true) (ht : x.st.tick + later ≤ x.size) => take_blocks HV.out he hp ht)
      rw [he]
      generalize (takeR ls x).1 = ml at S2 HTV htl HNH HYH ⊢
      clear he hlg
      have cB := HB2.out.cell
      have lB := HB2.out.lt
      have w1a : IntKind.i64.wrap site = site := IntWalk.i64_in _ (by omega)
      have w2a : IntKind.i64.wrap later = later := IntWalk.i64_in _ (by omega)
      have w3a : site.tmod 8 = site % 8 := Int.tmod_eq_emod_of_nonneg h2.1
      have w4a : IntKind.i64.wrap (site % 8 + 1) = site % 8 + 1 := IntWalk.i64_in _ (by omega)
      have w5a : IntKind.i64.wrap (x.st.tick + later) = x.st.tick + later := IntWalk.i64_in _ (by omega)
      go_wp2_with fail
      refine wp_region_near (by assumption) (by kernel_rfl) ?_
      repeat (go_big_quiet_step (fail))
      refine wpQuiet_nil ?_
      intro w1 hw1
      have hy := Ext.of_near hw1
      clear hw1
      clear w1a w2a w3a w4a w5a cB lB
      have X3 := Lib.hid (X2.out.trans hy)
      have B3 := HB2.out.ext hy
      have D3 := HD2.out.ext hy
      have S3 := S2.out.ext hy
      have T3 := HS.out.ext X3.out
      clear hy
      generalize hoth : site % 8 + 1 = oth
      generalize htk : x.st.tick + later = tk at HNH HYH ⊢
      clear hoth htk
      go_wp2_with (first | (refine wpList_load_blk 26 (.tmp 9) rfl rfl D3 rfl _ Tryd.underlying26 rfl (by kernel_rfl) ?_) | (refine wpList_load_blk 26 (.tmp 9) rfl rfl (D3.alloc _) rfl _ Tryd.underlying26 rfl (by kernel_rfl) ?_) | (refine wpList_load_blk 26 (.tmp 9) rfl rfl ((D3.alloc _).alloc _) rfl _ Tryd.underlying26 rfl (by kernel_rfl) ?_) | (refine wpList_load_part 28 (.tmp 44) rfl rfl B3 5 [.int .i64 x.box.lo.x, .int .i64 x.box.lo.y, .int .i64 x.box.lo.z, .int .i64 x.box.hi.x, .int .i64 x.box.hi.y, .int .i64 x.box.hi.z] rfl rfl _ Tryd.underlying28 rfl (by kernel_rfl) ?_) | (refine wpList_load_part 28 (.tmp 44) rfl rfl (B3.alloc _) 5 [.int .i64 x.box.lo.x, .int .i64 x.box.lo.y, .int .i64 x.box.lo.z, .int .i64 x.box.hi.x, .int .i64 x.box.hi.y, .int .i64 x.box.hi.z] rfl rfl _ Tryd.underlying28 rfl (by kernel_rfl) ?_))
      refine (refIn_any p x.box _).mono ?_
      rintro e w4 ⟨rfl, xx⟩
      have X3 := Lib.hid (X3.out.trans xx)
      have B3 := B3.ext xx
      have D3 := D3.ext xx
      have S3 := S3.ext xx
      have T3 := T3.ext xx
      clear xx
      have cB3 := B3.cell
      have lB3 := B3.lt
      by_cases hH : inP p x.box = true ∧ tk ≤ x.size
      · have HO := Lib.hid (HYH.out hH.1 hH.2)
        have hle : decide (tk ≤ x.size) = true := decide_eq_true hH.2
        rw [hH.1]
        clear hH HNH HYH
        have HB1 := Lib.hid (show blocksL ml x.st.site tk p = false from by rw [blocks_def, HO.out]; simp)
        by_cases hoo : oth = x.st.site
        · have hb9 : (oth != x.st.site) = false := by simp [hoo]
          clear hoo
          go_wp2_with (first | (refine wpList_load_blk 26 (.tmp 9) rfl rfl D3 rfl _ Tryd.underlying26 rfl (by kernel_rfl) ?_) | (refine wpList_load_blk 26 (.tmp 9) rfl rfl (D3.alloc _) rfl _ Tryd.underlying26 rfl (by kernel_rfl) ?_) | (refine wpList_load_blk 26 (.tmp 9) rfl rfl ((D3.alloc _).alloc _) rfl _ Tryd.underlying26 rfl (by kernel_rfl) ?_))
          refine (blocks_at HB1.out (by omega) A2 c2 _ S3).mono ?_
          rintro e w5 ⟨rfl, xx⟩
          have X3 := Lib.hid (X3.out.trans xx)
          have B3 := B3.ext xx
          have D3 := D3.ext xx
          have S3 := S3.ext xx
          have T3 := T3.ext xx
          clear xx
          have cB3 := B3.cell
          have lB3 := B3.lt
          go_wp2_with fail
          have cD3 := D3.cell
          have lD3 := D3.lt
          have HNS := Lib.hid (fun (w' : World) (hx : Ext _ w') => sanity_any w' (HL.out.ext (X3.out.trans hx)))
          refine wp_region_near (by assumption) (by kernel_rfl) ?_
          repeat (go_big_quiet_step ((first | (go_at_call 10; exact near_call (HNS.out _ (Ext.of_near ⟨⟨_, _⟩, rfl⟩))))))
          refine wpQuiet_nil ?_
          intro w1 hw1
          have hy := Ext.of_near hw1
          clear hw1
          go_wp2
          go_ret
          exact ⟨ret_bool (by simp), X3.out.trans hy⟩
        · have hb9 : (oth != x.st.site) = true := by simpa using hoo
          have HB9 := Lib.hid (show blocksL ml oth tk p = true from by rw [blocks_def, HO.out]; simp; exact ⟨by omega, fun h => hoo h.symm⟩)
          clear hoo
          go_wp2_with (first | (refine wpList_load_blk 26 (.tmp 9) rfl rfl D3 rfl _ Tryd.underlying26 rfl (by kernel_rfl) ?_) | (refine wpList_load_blk 26 (.tmp 9) rfl rfl (D3.alloc _) rfl _ Tryd.underlying26 rfl (by kernel_rfl) ?_) | (refine wpList_load_blk 26 (.tmp 9) rfl rfl ((D3.alloc _).alloc _) rfl _ Tryd.underlying26 rfl (by kernel_rfl) ?_))
          refine (blocks_at HB9.out (by omega) A2 c2 _ S3).mono ?_
          rintro e w6 ⟨rfl, xx⟩
          have X3 := Lib.hid (X3.out.trans xx)
          have B3 := B3.ext xx
          have D3 := D3.ext xx
          have S3 := S3.ext xx
          have T3 := T3.ext xx
          clear xx
          have cB3 := B3.cell
          have lB3 := B3.lt
          go_wp2_with (first | (refine wpList_load_blk 26 (.tmp 9) rfl rfl D3 rfl _ Tryd.underlying26 rfl (by kernel_rfl) ?_) | (refine wpList_load_blk 26 (.tmp 9) rfl rfl (D3.alloc _) rfl _ Tryd.underlying26 rfl (by kernel_rfl) ?_) | (refine wpList_load_blk 26 (.tmp 9) rfl rfl ((D3.alloc _).alloc _) rfl _ Tryd.underlying26 rfl (by kernel_rfl) ?_))
          refine (blocks_at HB1.out (by omega) A2 c2 _ S3).mono ?_
          rintro e w7 ⟨rfl, xx⟩
          have X3 := Lib.hid (X3.out.trans xx)
          have B3 := B3.ext xx
          have D3 := D3.ext xx
          have S3 := S3.ext xx
          have T3 := T3.ext xx
          clear xx
          have cB3 := B3.cell
          have lB3 := B3.lt
          go_wp2_with fail
          have cD3 := D3.cell
          have lD3 := D3.lt
          have HNS := Lib.hid (fun (w' : World) (hx : Ext _ w') => sanity_any w' (HL.out.ext (X3.out.trans hx)))
          refine wp_region_near (by assumption) (by kernel_rfl) ?_
          repeat (go_big_quiet_step ((first | (go_at_call 10; exact near_call (HNS.out _ (Ext.of_near ⟨⟨_, _⟩, rfl⟩))))))
          refine wpQuiet_nil ?_
          intro w1 hw1
          have hy := Ext.of_near hw1
          clear hw1
          go_wp2
          go_ret
          exact ⟨ret_bool (by simp), X3.out.trans hy⟩
      · have HOO := Lib.hid (HNH.out hH)
        obtain ⟨o, ho⟩ : ∃ o, o = ownerL ls tk p := ⟨_, rfl⟩
        have HO2 := Lib.hid ho.symm
        have HO := Lib.hid (HOO.out.trans ho.symm)
        clear ho HOO HNH HYH
        obtain ⟨bb, hbb⟩ : ∃ bb, bb = (decide (o ≠ 0) && decide (o ≠ x.st.site)) := ⟨_, rfl⟩
        have HBM := Lib.hid (show blocksL ml x.st.site tk p = bb from by rw [blocks_def, HO.out, hbb])
        have HBL := Lib.hid (show blocksL ls x.st.site tk p = bb from by rw [blocks_def, HO2.out, hbb])
        clear hbb
        cases hin : inP p x.box
        · clear hH hin
          cases bb
          · go_wp2_with (first | (refine wpList_load_blk 26 (.tmp 9) rfl rfl D3 rfl _ Tryd.underlying26 rfl (by kernel_rfl) ?_) | (refine wpList_load_blk 26 (.tmp 9) rfl rfl (D3.alloc _) rfl _ Tryd.underlying26 rfl (by kernel_rfl) ?_) | (refine wpList_load_blk 26 (.tmp 9) rfl rfl ((D3.alloc _).alloc _) rfl _ Tryd.underlying26 rfl (by kernel_rfl) ?_))
            refine (blocks_at HBM.out (by omega) A2 c2 _ S3).mono ?_
            rintro e w8 ⟨rfl, xx⟩
            have X3 := Lib.hid (X3.out.trans xx)
            have B3 := B3.ext xx
            have D3 := D3.ext xx
            have S3 := S3.ext xx
            have T3 := T3.ext xx
            clear xx
            have cB3 := B3.cell
            have lB3 := B3.lt
            go_wp2_with fail
            have cD3 := D3.cell
            have lD3 := D3.lt
            have HNS := Lib.hid (fun (w' : World) (hx : Ext _ w') => sanity_any w' (HL.out.ext (X3.out.trans hx)))
            have HNM := Lib.hid (fun (w' : World) (hx : Ext _ w') => owner_at (now := tk) (p := p) HO.out (by omega) A2 c2 w' (S3.ext hx))
            have HNL := Lib.hid (fun (w' : World) (hx : Ext _ w') => owner_at (now := tk) (p := p) HO2.out (by omega) A c w' (T3.ext hx))
            refine wp_region_near (by assumption) (by kernel_rfl) ?_
            repeat (go_big_quiet_step ((first | (go_at_call 10; exact near_call (HNS.out _ (Ext.of_near ⟨⟨_, _⟩, rfl⟩))) | (go_at_call 20; first | with_reducible exact near_call (HNM.out _ (Ext.of_near ⟨⟨_, _⟩, rfl⟩)) | with_reducible exact near_call (HNL.out _ (Ext.of_near ⟨⟨_, _⟩, rfl⟩))))))
            refine wpQuiet_nil ?_
            intro w1 hw1
            have hy := Ext.of_near hw1
            clear hw1
            go_wp2
            go_ret
            exact ⟨ret_bool (by simp), X3.out.trans hy⟩
          · go_wp2_with (first | (refine wpList_load_blk 26 (.tmp 9) rfl rfl D3 rfl _ Tryd.underlying26 rfl (by kernel_rfl) ?_) | (refine wpList_load_blk 26 (.tmp 9) rfl rfl (D3.alloc _) rfl _ Tryd.underlying26 rfl (by kernel_rfl) ?_) | (refine wpList_load_blk 26 (.tmp 9) rfl rfl ((D3.alloc _).alloc _) rfl _ Tryd.underlying26 rfl (by kernel_rfl) ?_))
            refine (blocks_at HBM.out (by omega) A2 c2 _ S3).mono ?_
            rintro e w9 ⟨rfl, xx⟩
            have X3 := Lib.hid (X3.out.trans xx)
            have B3 := B3.ext xx
            have D3 := D3.ext xx
            have S3 := S3.ext xx
            have T3 := T3.ext xx
            clear xx
            have cB3 := B3.cell
            have lB3 := B3.lt
            go_wp2_with (first | (refine wpList_load_blk 26 (.tmp 9) rfl rfl D3 rfl _ Tryd.underlying26 rfl (by kernel_rfl) ?_) | (refine wpList_load_blk 26 (.tmp 9) rfl rfl (D3.alloc _) rfl _ Tryd.underlying26 rfl (by kernel_rfl) ?_) | (refine wpList_load_blk 26 (.tmp 9) rfl rfl ((D3.alloc _).alloc _) rfl _ Tryd.underlying26 rfl (by kernel_rfl) ?_))
            refine (blocks_at HBL.out (by omega) A c _ T3).mono ?_
            rintro e w10 ⟨rfl, xx⟩
            have X3 := Lib.hid (X3.out.trans xx)
            have B3 := B3.ext xx
            have D3 := D3.ext xx
            have S3 := S3.ext xx
            have T3 := T3.ext xx
            clear xx
            have cB3 := B3.cell
            have lB3 := B3.lt
            go_wp2_with fail
            have cD3 := D3.cell
            have lD3 := D3.lt
            have HNS := Lib.hid (fun (w' : World) (hx : Ext _ w') => sanity_any w' (HL.out.ext (X3.out.trans hx)))
            have HNM := Lib.hid (fun (w' : World) (hx : Ext _ w') => owner_at (now := tk) (p := p) HO.out (by omega) A2 c2 w' (S3.ext hx))
            have HNL := Lib.hid (fun (w' : World) (hx : Ext _ w') => owner_at (now := tk) (p := p) HO2.out (by omega) A c w' (T3.ext hx))
            refine wp_region_near (by assumption) (by kernel_rfl) ?_
            repeat (go_big_quiet_step ((first | (go_at_call 10; exact near_call (HNS.out _ (Ext.of_near ⟨⟨_, _⟩, rfl⟩))) | (go_at_call 20; first | with_reducible exact near_call (HNM.out _ (Ext.of_near ⟨⟨_, _⟩, rfl⟩)) | with_reducible exact near_call (HNL.out _ (Ext.of_near ⟨⟨_, _⟩, rfl⟩))))))
            refine wpQuiet_nil ?_
            intro w1 hw1
            have hy := Ext.of_near hw1
            clear hw1
            go_wp2
            go_ret
            exact ⟨ret_bool (by simp), X3.out.trans hy⟩
        · have hle : decide (tk ≤ x.size) = false := decide_eq_false (fun h => hH ⟨hin, h⟩)
          clear hH hin
          by_cases hoo : oth = x.st.site
          · have hb9 : (oth != x.st.site) = false := by simp [hoo]
            clear hoo
            cases bb
            · go_wp2_with (first | (refine wpList_load_blk 26 (.tmp 9) rfl rfl D3 rfl _ Tryd.underlying26 rfl (by kernel_rfl) ?_) | (refine wpList_load_blk 26 (.tmp 9) rfl rfl (D3.alloc _) rfl _ Tryd.underlying26 rfl (by kernel_rfl) ?_) | (refine wpList_load_blk 26 (.tmp 9) rfl rfl ((D3.alloc _).alloc _) rfl _ Tryd.underlying26 rfl (by kernel_rfl) ?_))
              refine (blocks_at HBM.out (by omega) A2 c2 _ S3).mono ?_
              rintro e w11 ⟨rfl, xx⟩
              have X3 := Lib.hid (X3.out.trans xx)
              have B3 := B3.ext xx
              have D3 := D3.ext xx
              have S3 := S3.ext xx
              have T3 := T3.ext xx
              clear xx
              have cB3 := B3.cell
              have lB3 := B3.lt
              go_wp2_with fail
              have cD3 := D3.cell
              have lD3 := D3.lt
              have HNS := Lib.hid (fun (w' : World) (hx : Ext _ w') => sanity_any w' (HL.out.ext (X3.out.trans hx)))
              have HNM := Lib.hid (fun (w' : World) (hx : Ext _ w') => owner_at (now := tk) (p := p) HO.out (by omega) A2 c2 w' (S3.ext hx))
              have HNL := Lib.hid (fun (w' : World) (hx : Ext _ w') => owner_at (now := tk) (p := p) HO2.out (by omega) A c w' (T3.ext hx))
              refine wp_region_near (by assumption) (by kernel_rfl) ?_
              repeat (go_big_quiet_step ((first | (go_at_call 10; exact near_call (HNS.out _ (Ext.of_near ⟨⟨_, _⟩, rfl⟩))) | (go_at_call 20; first | with_reducible exact near_call (HNM.out _ (Ext.of_near ⟨⟨_, _⟩, rfl⟩)) | with_reducible exact near_call (HNL.out _ (Ext.of_near ⟨⟨_, _⟩, rfl⟩))))))
              refine wpQuiet_nil ?_
              intro w1 hw1
              have hy := Ext.of_near hw1
              clear hw1
              go_wp2
              go_ret
              exact ⟨ret_bool (by simp), X3.out.trans hy⟩
            · go_wp2_with (first | (refine wpList_load_blk 26 (.tmp 9) rfl rfl D3 rfl _ Tryd.underlying26 rfl (by kernel_rfl) ?_) | (refine wpList_load_blk 26 (.tmp 9) rfl rfl (D3.alloc _) rfl _ Tryd.underlying26 rfl (by kernel_rfl) ?_) | (refine wpList_load_blk 26 (.tmp 9) rfl rfl ((D3.alloc _).alloc _) rfl _ Tryd.underlying26 rfl (by kernel_rfl) ?_))
              refine (blocks_at HBM.out (by omega) A2 c2 _ S3).mono ?_
              rintro e w12 ⟨rfl, xx⟩
              have X3 := Lib.hid (X3.out.trans xx)
              have B3 := B3.ext xx
              have D3 := D3.ext xx
              have S3 := S3.ext xx
              have T3 := T3.ext xx
              clear xx
              have cB3 := B3.cell
              have lB3 := B3.lt
              go_wp2_with (first | (refine wpList_load_blk 26 (.tmp 9) rfl rfl D3 rfl _ Tryd.underlying26 rfl (by kernel_rfl) ?_) | (refine wpList_load_blk 26 (.tmp 9) rfl rfl (D3.alloc _) rfl _ Tryd.underlying26 rfl (by kernel_rfl) ?_) | (refine wpList_load_blk 26 (.tmp 9) rfl rfl ((D3.alloc _).alloc _) rfl _ Tryd.underlying26 rfl (by kernel_rfl) ?_))
              refine (blocks_at HBL.out (by omega) A c _ T3).mono ?_
              rintro e w13 ⟨rfl, xx⟩
              have X3 := Lib.hid (X3.out.trans xx)
              have B3 := B3.ext xx
              have D3 := D3.ext xx
              have S3 := S3.ext xx
              have T3 := T3.ext xx
              clear xx
              have cB3 := B3.cell
              have lB3 := B3.lt
              go_wp2_with fail
              have cD3 := D3.cell
              have lD3 := D3.lt
              have HNS := Lib.hid (fun (w' : World) (hx : Ext _ w') => sanity_any w' (HL.out.ext (X3.out.trans hx)))
              have HNM := Lib.hid (fun (w' : World) (hx : Ext _ w') => owner_at (now := tk) (p := p) HO.out (by omega) A2 c2 w' (S3.ext hx))
              have HNL := Lib.hid (fun (w' : World) (hx : Ext _ w') => owner_at (now := tk) (p := p) HO2.out (by omega) A c w' (T3.ext hx))
              refine wp_region_near (by assumption) (by kernel_rfl) ?_
              repeat (go_big_quiet_step ((first | (go_at_call 10; exact near_call (HNS.out _ (Ext.of_near ⟨⟨_, _⟩, rfl⟩))) | (go_at_call 20; first | with_reducible exact near_call (HNM.out _ (Ext.of_near ⟨⟨_, _⟩, rfl⟩)) | with_reducible exact near_call (HNL.out _ (Ext.of_near ⟨⟨_, _⟩, rfl⟩))))))
              refine wpQuiet_nil ?_
              intro w1 hw1
              have hy := Ext.of_near hw1
              clear hw1
              go_wp2
              go_ret
              exact ⟨ret_bool (by simp), X3.out.trans hy⟩
          · have hb9 : (oth != x.st.site) = true := by simpa using hoo
            clear hoo
            cases bb
            · go_wp2_with (first | (refine wpList_load_blk 26 (.tmp 9) rfl rfl D3 rfl _ Tryd.underlying26 rfl (by kernel_rfl) ?_) | (refine wpList_load_blk 26 (.tmp 9) rfl rfl (D3.alloc _) rfl _ Tryd.underlying26 rfl (by kernel_rfl) ?_) | (refine wpList_load_blk 26 (.tmp 9) rfl rfl ((D3.alloc _).alloc _) rfl _ Tryd.underlying26 rfl (by kernel_rfl) ?_))
              refine (blocks_at HBM.out (by omega) A2 c2 _ S3).mono ?_
              rintro e w14 ⟨rfl, xx⟩
              have X3 := Lib.hid (X3.out.trans xx)
              have B3 := B3.ext xx
              have D3 := D3.ext xx
              have S3 := S3.ext xx
              have T3 := T3.ext xx
              clear xx
              have cB3 := B3.cell
              have lB3 := B3.lt
              go_wp2_with fail
              have cD3 := D3.cell
              have lD3 := D3.lt
              have HNS := Lib.hid (fun (w' : World) (hx : Ext _ w') => sanity_any w' (HL.out.ext (X3.out.trans hx)))
              have HNM := Lib.hid (fun (w' : World) (hx : Ext _ w') => owner_at (now := tk) (p := p) HO.out (by omega) A2 c2 w' (S3.ext hx))
              have HNL := Lib.hid (fun (w' : World) (hx : Ext _ w') => owner_at (now := tk) (p := p) HO2.out (by omega) A c w' (T3.ext hx))
              refine wp_region_near (by assumption) (by kernel_rfl) ?_
              repeat (go_big_quiet_step ((first | (go_at_call 10; exact near_call (HNS.out _ (Ext.of_near ⟨⟨_, _⟩, rfl⟩))) | (go_at_call 20; first | with_reducible exact near_call (HNM.out _ (Ext.of_near ⟨⟨_, _⟩, rfl⟩)) | with_reducible exact near_call (HNL.out _ (Ext.of_near ⟨⟨_, _⟩, rfl⟩))))))
              refine wpQuiet_nil ?_
              intro w1 hw1
              have hy := Ext.of_near hw1
              clear hw1
              go_wp2
              go_ret
              exact ⟨ret_bool (by simp), X3.out.trans hy⟩
            · go_wp2_with (first | (refine wpList_load_blk 26 (.tmp 9) rfl rfl D3 rfl _ Tryd.underlying26 rfl (by kernel_rfl) ?_) | (refine wpList_load_blk 26 (.tmp 9) rfl rfl (D3.alloc _) rfl _ Tryd.underlying26 rfl (by kernel_rfl) ?_) | (refine wpList_load_blk 26 (.tmp 9) rfl rfl ((D3.alloc _).alloc _) rfl _ Tryd.underlying26 rfl (by kernel_rfl) ?_))
              refine (blocks_at HBM.out (by omega) A2 c2 _ S3).mono ?_
              rintro e w15 ⟨rfl, xx⟩
              have X3 := Lib.hid (X3.out.trans xx)
              have B3 := B3.ext xx
              have D3 := D3.ext xx
              have S3 := S3.ext xx
              have T3 := T3.ext xx
              clear xx
              have cB3 := B3.cell
              have lB3 := B3.lt
              go_wp2_with (first | (refine wpList_load_blk 26 (.tmp 9) rfl rfl D3 rfl _ Tryd.underlying26 rfl (by kernel_rfl) ?_) | (refine wpList_load_blk 26 (.tmp 9) rfl rfl (D3.alloc _) rfl _ Tryd.underlying26 rfl (by kernel_rfl) ?_) | (refine wpList_load_blk 26 (.tmp 9) rfl rfl ((D3.alloc _).alloc _) rfl _ Tryd.underlying26 rfl (by kernel_rfl) ?_))
              refine (blocks_at HBL.out (by omega) A c _ T3).mono ?_
              rintro e w16 ⟨rfl, xx⟩
              have X3 := Lib.hid (X3.out.trans xx)
              have B3 := B3.ext xx
              have D3 := D3.ext xx
              have S3 := S3.ext xx
              have T3 := T3.ext xx
              clear xx
              have cB3 := B3.cell
              have lB3 := B3.lt
              go_wp2_with fail
              have cD3 := D3.cell
              have lD3 := D3.lt
              have HNS := Lib.hid (fun (w' : World) (hx : Ext _ w') => sanity_any w' (HL.out.ext (X3.out.trans hx)))
              have HNM := Lib.hid (fun (w' : World) (hx : Ext _ w') => owner_at (now := tk) (p := p) HO.out (by omega) A2 c2 w' (S3.ext hx))
              have HNL := Lib.hid (fun (w' : World) (hx : Ext _ w') => owner_at (now := tk) (p := p) HO2.out (by omega) A c w' (T3.ext hx))
              refine wp_region_near (by assumption) (by kernel_rfl) ?_
              repeat (go_big_quiet_step ((first | (go_at_call 10; exact near_call (HNS.out _ (Ext.of_near ⟨⟨_, _⟩, rfl⟩))) | (go_at_call 20; first | with_reducible exact near_call (HNM.out _ (Ext.of_near ⟨⟨_, _⟩, rfl⟩)) | with_reducible exact near_call (HNL.out _ (Ext.of_near ⟨⟨_, _⟩, rfl⟩))))))
              refine wpQuiet_nil ?_
              intro w1 hw1
              have hy := Ext.of_near hw1
              clear hw1
              go_wp2
              go_ret
              exact ⟨ret_bool (by simp), X3.out.trans hy⟩
    · have hne : ((takeR ls x).2 == 0) = false := by simpa using he
      clear he
      generalize (takeR ls x).2 = er at hne ⊢
      go_wp2_with fail
      refine (sanity_any _ (HL.out.ext X2.out)).mono ?_
      rintro e w3 ⟨rfl, x3⟩
      go_wp2
      go_ret
      exact ⟨rfl, X2.out.trans x3⟩
end Go.Proofs.YtjceebpafnnffaaDoor

namespace Go.Proofs.YtjceebpafnnffaaDoor
open Go Go.RowKit

section
variable {P : Program}
/-- The law by a table, guards let in. -/
theorem wp_region_tabg {G : Type} {Q : Exit → Act → World → Prop} {id : Nat} {a : Act} {w : World} {l : List Oper} (V : G → Nat → Value) (R : World → Array Bool → G → World → Prop) (g0 : G) (hm : P.follows .mixedOrders = true) (hs : Slots l.toArray) (hb : Back l.toArray)
    (h0 : R w (Array.replicate l.length false) g0 w.drew)
    (hstep : ∀ listed g w1 i o, l[i]? = some o → listed.getD i true = false → (∀ e, e ∈ o.after → Region.binds .any e = true → listed.getD e.on false = true) → R w listed g w1 →
      ∀ K : Act → World → Prop, (∀ g' w', R w (listed.setIfInBounds i true) g' w' → (∀ j, j < l.length → listed.getD j true = true → V g' j = V g j) → K ((fill l.toArray (V g) listed a).put o.dst (V g' i)) w') →
        if Region.wanted o (yielded l.toArray (fill l.toArray (V g) listed a).tmps) = true then o.wp P (fill l.toArray (V g) listed a) w1 K Q else K ((fill l.toArray (V g) listed a).put o.dst undef) w1)
    (hend : ∀ listed g w1, (∀ i, i < l.length → listed.getD i true = true) → R w listed g w1 → Q .normal (fill l.toArray (V g) listed a) w1) : (Code.region id l.toArray true).wp P Q a w := by
  refine wp_region_inv (fun listed b w1 => ∃ g, b = fill l.toArray (V g) listed a ∧ R w listed g w1) hm ⟨g0, ?_, h0⟩ ?_ ?_
  · have : ∀ n, fillN l.toArray (V g0) (Array.replicate l.length false) a n = a ∨ l.length < n := by
      intro n
      induction n with
      | zero => exact .inl rfl
      | succ n ih =>
        by_cases hn : l.length < n + 1
        · exact .inr hn
        · rcases ih with ih | ih
          · refine .inl ?_
            unfold fillN
            rw [if_neg (by simp [Array.getD]; omega), ih]
          · omega
    rcases this l.toArray.size with h | h
    · exact h.symm
    · simp at h
  · rintro listed b w1 i ⟨g, rfl, hR⟩ hi
    obtain ⟨hun, o, ho, hdeps⟩ := mem_ready.1 hi
    have ho' : l[i]? = some o := by simpa using ho
    have hi2 : i < l.toArray.size := (Array.getElem?_eq_some_iff.1 ho).1
    refine wpOp_step ho fun K hK => ?_
    refine hstep listed g w1 i o ho' hun hdeps hR K fun g' w' hR' hV => ?_
    refine hK _ _ ⟨g', ?_, hR'⟩
    have hd : dstOf l.toArray i = o.dst := by simp [dstOf, ho']
    rw [← hd, fill_congr (V' := V g') (fun j hl hj => (hV j (by simpa using hj) hl).symm), fill_put hs hi2 hun]
  · rintro listed b w1 ⟨g, rfl, hR⟩ hr
    exact hend listed g w1 (fun i hi => all_done hb hr i (by simpa using hi)) hR

/-- Operation o waits for operation j. -/
def waits (o : Oper) (j : Nat) : Bool := o.after.toList.any fun e => e.on == j && Region.binds .any e
theorem waits_spec {o : Oper} {j : Nat} (h : waits o j = true) : ∃ e, e ∈ o.after ∧ e.on = j ∧ Region.binds .any e = true := by
  unfold waits at h
  rw [List.any_eq_true] at h
  obtain ⟨e, he, h⟩ := h
  simp only [Bool.and_eq_true, beq_iff_eq] at h
  exact ⟨e, by simpa using he, h.1, h.2⟩
/-- The law: Good i says what operation i yields; it stays true while memory grows. -/
theorem wp_region_rel {Q : Exit → Act → World → Prop} {id : Nat} {a : Act} {w : World} {l : List Oper} (Good : Nat → Value → World → Prop) (hm : P.follows .mixedOrders = true) (hs : slotsB l.toArray = true) (hb : backB l.toArray = true) (hfit : ((List.range l.length).all fun j => match dstOf l.toArray j with | some d => decide (d < a.tmps.size) | none => true) = true)
    (hst : ∀ i v w1 w2, Ext w1 w2 → Good i v w1 → Good i v w2)
    (hstep : ∀ (i : Nat) (o : Oper), l[i]? = some o → ∀ (b : Act) (w1 : World), Ext w w1 → (∀ d : Nat, missB l.toArray d = true → b.tmps[d]? = a.tmps[d]?) →
      (∀ j, waits o j = true → ∃ v, Good j v w1 ∧ ∀ d, dstOf l.toArray j = some d → b.tmps[d]? = some v) →
      ∀ K : Act → World → Prop, (∀ v w', Ext w1 w' → Good i v w' → K (b.put o.dst v) w') → if Region.wanted o (yielded l.toArray b.tmps) = true then o.wp P b w1 K Q else K (b.put o.dst undef) w1)
    (hend : ∀ (V : Nat → Value) (w1 : World), Ext w w1 → (∀ i, i < l.length → Good i (V i) w1) → Q .normal (fillAllN l.toArray V a l.length) w1) : (Code.region id l.toArray true).wp P Q a w := by
  have hS := slotsB_spec hs
  have hB := backB_spec hb
  refine wp_region_tabg (G := Nat → Value) (fun g => g) (fun w listed g w1 => Ext w w1 ∧ ∀ i, i < l.length → listed.getD i true = true → Good i (g i) w1) (fun _ => undef) hm hS hB ?_ ?_ ?_
  · refine ⟨(Ext.refl _).drew, fun i hi h => ?_⟩
    have : (Array.replicate l.length false).getD i true = false := by simp [Array.getD, hi]
    rw [this] at h
    cases h
  · intro listed g w1 i o ho hun hdep hR K hK
    have hil : i < l.length := (List.getElem?_eq_some_iff.1 ho).1
    refine hstep i o ho (fill l.toArray g listed a) w1 hR.1 (fun d hd => fill_miss (fun i hi _ => missB_spec hd i hi)) (fun j hj => ?_) K (fun v w' hx hg => ?_)
    · obtain ⟨e, he, rfl, hbd⟩ := waits_spec hj
      have h1 := getD_up (hdep e he hbd)
      have h2 : e.on < l.length := by have := hB i o (by simpa using ho) e he; omega
      refine ⟨g e.on, hR.2 _ h2 h1, fun d hd => fill_hit hS (by simpa using h2) h1 hd ?_⟩
      rw [List.all_eq_true] at hfit
      have h3 := hfit e.on (List.mem_range.2 h2)
      rw [hd] at h3
      simpa using h3
    · have h := hK (fun k => if k = i then v else g k) w' ⟨hR.1.trans hx, fun j hj hl => ?_⟩ (fun j hj hl => ?_)
      · simpa using h
      · by_cases hji : j = i
        · subst hji; simpa using hg
        · simp only [if_neg hji]
          rw [getD_set_ne true (Ne.symm hji)] at hl
          exact hst _ _ _ _ hx (hR.2 j hj hl)
      · have hne : j ≠ i := fun e => by subst e; rw [hl] at hun; cases hun
        simp only [if_neg hne]
  · intro listed g w1 hall hR
    rw [fill_done hall]
    exact hend g w1 hR.1 (fun i hi => hR.2 i hi (hall i hi))

/- Operations, one kind each. -/
variable {o : Oper} {b : Act} {w1 : World} {K : Act → World → Prop} {Q : Exit → Act → World → Prop}
theorem eval_of {d : Nat} {v : Value} (h : b.tmps[d]? = some v) : b.eval (.tmp d) = v := by simp [Act.eval, Array.getD_eq_getD_getElem?, h]
theorem want_none {ops : Array Oper} {t : Array Value} {X Y : Prop} (hg : o.guard = none) (h : X) : if Region.wanted o (yielded ops t) = true then X else Y := by
  rw [if_pos (by simp [Region.wanted, hg])]; exact h
theorem want_yes {ops : Array Oper} {t : Array Value} {X Y : Prop} {j d : Nat} {c : Bool} (hg : o.guard = some (j, c)) (hd : dstOf ops j = some d) (ht : t[d]? = some (.bool c)) (h : X) : if Region.wanted o (yielded ops t) = true then X else Y := by
  have hd2 : (ops[j]?).bind (·.dst) = some d := hd
  rw [if_pos (by simp [Region.wanted, hg, yielded, hd2, ht])]; exact h
theorem want_no {ops : Array Oper} {t : Array Value} {X Y : Prop} {j d : Nat} {c : Bool} (hg : o.guard = some (j, c)) (hd : dstOf ops j = some d) (ht : t[d]? = some (.bool (!c)) ∨ t[d]? = some undef) (h : Y) : if Region.wanted o (yielded ops t) = true then X else Y := by
  have hd2 : (ops[j]?).bind (·.dst) = some d := hd
  rw [if_neg]
  · exact h
  · rcases ht with ht | ht
    · cases c <;> simp [Region.wanted, hg, yielded, hd2, ht]
    · simp [Region.wanted, hg, yielded, hd2, ht, undef]
theorem op_run {v : Value} {w2 : World} (hr : (execOp b.eval o).run P w1 = .ok (.value v) w2) (h : K (b.put o.dst v) w2) : o.wp P b w1 K Q := by
  unfold Oper.wp
  rw [hr]
  exact h
theorem op_move {x : Operand} {v : Value} (ho : o.op = .move x) (hx : b.eval x = v) (h : K (b.put o.dst v) w1) : o.wp P b w1 K Q :=
  op_run (by unfold execOp; simp [ho, hx]) h
theorem op_assign {x : Operand} {v : Value} (ho : o.op = .assign x) (hx : b.eval x = v) (h : K (b.put o.dst v) w1) : o.wp P b w1 K Q :=
  op_run (by unfold execOp; simp [ho, hx]) h
theorem op_loadrow {t : TypeId} {x : Operand} {bk : Nat} {tb : TypeId} {vs : List Value} (ho : o.op = .load t x) (hx : b.eval x = .pointer (some ⟨bk, 0, none⟩)) (hB : Arr w1 bk tb vs) (d : TypeDesc) (hu : P.underlying t = some d)
    (hd : (match d with | .struct _ | .array _ _ => true | _ => false) = true) (hi : (P.info? t).map (·.size) = some vs.length) (h : K (b.put o.dst (.agg vs.toArray)) w1) : o.wp P b w1 K Q :=
  wp_load_row t x ho bk hx tb vs.toArray (0, 0) d hB hu hd (by simpa using hi) h
theorem op_call {f : FuncId} {args : Array Operand} {ts : Array TypeId} {vs : Array Value} {G : Value → World → Prop} (ho : o.op = .call { callee := .value (.func f), args := args, argTypes := ts }) (ha : args.map b.eval = vs) (he : ∀ args w, (callFunc f args).run P w = .ok (.enter f args) w)
    (hc : Calls P f vs w1 fun e w' => ∃ v, e = .returned v ∧ Ext w1 w' ∧ G v w') (h : ∀ v w', Ext w1 w' → G v w' → K (b.put o.dst v) w') : o.wp P b w1 K Q := by
  have hr : (execOp b.eval o).run P w1 = .ok (.enter f vs) w1 := by
    unfold execOp
    simp [ho, resolve, invoke, Deferred.ofValue, Act.eval, ha, he]
  unfold Oper.wp
  rw [hr, Oper.upon_enter]
  refine hc.mono ?_
  rintro e w' ⟨v, rfl, hx, hg⟩
  exact h v w' hx hg
end
end Go.Proofs.YtjceebpafnnffaaDoor

namespace Go.Proofs.YtjceebpafnnffaaDoor
open Go Go.RowKit

set_option maxRecDepth 100000 in
set_option maxHeartbeats 16000000 in
theorem LockMatchesSpec_any (A A2 : Option Addr) (c c2 : Nat) (ls : List Lk) (cs : List Chg) (x : Ed) (site now : Int) (p : Pt) (w : World) (hs : Sv w w.heap.size 9 A c (rowsL ls)) (hs2 : Sv w w.heap.size 5 A2 c2 (rowsC cs)) (hw : fits x) (hL : Laid w) :
    Calls Tryd.prog 3 #[.slice A ls.length c, .agg #[.int .i64 x.st.tick, .int .i64 x.st.clock, .int .i64 x.st.site, .int .i64 x.st.seq, .int .i64 x.kind, .int .i64 x.box.lo.x, .int .i64 x.box.lo.y, .int .i64 x.box.lo.z, .int .i64 x.box.hi.x, .int .i64 x.box.hi.y, .int .i64 x.box.hi.z, .int .i64 x.at_.x, .int .i64 x.at_.y, .int .i64 x.at_.z, .int .i64 x.turn, .int .i64 x.cell, .int .i64 x.size], .int .i64 site, .int .i64 now, .agg #[.int .i64 p.x, .int .i64 p.y, .int .i64 p.z], .slice A2 cs.length c2] w fun e w' => e = .returned (.bool true) ∧ Ext w w' := by
  have hm := mixed
  have HS := Lib.hid hs
  have HS2 := Lib.hid hs2
  have HL := Lib.hid hL
  have HW := Lib.hid hw
  have HFW := Lib.hid (fun (w' : World) (hx : Ext w w') => few_any A c ls w' (HS.out.ext hx))
  have B0 := (Arr.new w 30 [.int .i64 x.st.tick, .int .i64 x.st.clock, .int .i64 x.st.site, .int .i64 x.st.seq, .int .i64 x.kind, .int .i64 x.box.lo.x, .int .i64 x.box.lo.y, .int .i64 x.box.lo.z, .int .i64 x.box.hi.x, .int .i64 x.box.hi.y, .int .i64 x.box.hi.z, .int .i64 x.at_.x, .int .i64 x.at_.y, .int .i64 x.at_.z, .int .i64 x.turn, .int .i64 x.cell, .int .i64 x.size]).alloc (.cells #[.int .i64 p.x, .int .i64 p.y, .int .i64 p.z] 26)
  have D0 := Arr.new1 w (.cells #[.int .i64 x.st.tick, .int .i64 x.st.clock, .int .i64 x.st.site, .int .i64 x.st.seq, .int .i64 x.kind, .int .i64 x.box.lo.x, .int .i64 x.box.lo.y, .int .i64 x.box.lo.z, .int .i64 x.box.hi.x, .int .i64 x.box.hi.y, .int .i64 x.box.hi.z, .int .i64 x.at_.x, .int .i64 x.at_.y, .int .i64 x.at_.z, .int .i64 x.turn, .int .i64 x.cell, .int .i64 x.size] 30) 26 [.int .i64 p.x, .int .i64 p.y, .int .i64 p.z]
  have hx0 : Ext w ((w.alloc (.cells #[.int .i64 x.st.tick, .int .i64 x.st.clock, .int .i64 x.st.site, .int .i64 x.st.seq, .int .i64 x.kind, .int .i64 x.box.lo.x, .int .i64 x.box.lo.y, .int .i64 x.box.lo.z, .int .i64 x.box.hi.x, .int .i64 x.box.hi.y, .int .i64 x.box.hi.z, .int .i64 x.at_.x, .int .i64 x.at_.y, .int .i64 x.at_.z, .int .i64 x.turn, .int .i64 x.cell, .int .i64 x.size] 30)).alloc (.cells #[.int .i64 p.x, .int .i64 p.y, .int .i64 p.z] 26)) := ((Ext.refl w).alloc _).alloc _
  have X0 := Lib.hid hx0
  have HB0 := Lib.hid B0
  have HD0 := Lib.hid D0
  have hln := hs2.len
  rw [rowsC_length] at hln
  clear hs hs2 hL hw B0 D0 hx0
  cases hf : (decide (ls.length ≤ 60) && validR ls) && decide (cs.length ≤ 60)
  · have hno : (decide (ls.length ≤ 60) && validR ls) = false ∨ ((decide (ls.length ≤ 60) && validR ls) = true ∧ decide ((60 : Int) < (cs.length : Int)) = true ∧ decide (60 < cs.length) = true) := by
      cases h1 : decide (ls.length ≤ 60) && validR ls
      · exact .inl rfl
      · rw [h1] at hf
        have : ¬ cs.length ≤ 60 := by simpa using hf
        exact .inr ⟨rfl, decide_eq_true (by omega), decide_eq_true (by omega)⟩
    clear hf
    rcases hno with h1 | ⟨h1, h3, h4⟩
    all_goals
      rw [h1] at HFW
      clear h1
      go_enter Tryd.func3, Tryd.ntmps3
      go_wp2_with fail
      refine (HFW.out _ X0.out).mono ?_
      rintro e w1 ⟨rfl, x1⟩
      go_wp2_with fail
      refine (sanity_any _ (HL.out.ext (X0.out.trans x1))).mono ?_
      rintro e w2 ⟨rfl, x2⟩
      go_wp2
      go_ret
      exact ⟨rfl, (X0.out.trans x1).trans x2⟩
  · rw [Bool.and_eq_true] at hf
    rw [hf.1] at HFW
    obtain ⟨hv, hb⟩ := few_VT hf.1
    have hcl : cs.length ≤ 60 := by simpa using hf.2
    have h3 : decide ((60 : Int) < (cs.length : Int)) = false := decide_eq_false (by omega)
    have h4 : decide (60 < cs.length) = false := decide_eq_false (by omega)
    have HV := Lib.hid hv
    clear hf hv
    go_enter Tryd.func3, Tryd.ntmps3
    go_wp2_with fail
    refine (HFW.out _ X0.out).mono ?_
    rintro e w1 ⟨rfl, x1⟩
    have X1 := Lib.hid (X0.out.trans x1)
    have B1 := HB0.out.ext x1
    have HD1 := Lib.hid (HD0.out.ext x1)
    clear x1
    go_wp2_with (first | (refine wpList_load_blk 30 (.tmp 7) rfl rfl B1 rfl _ Tryd.underlying30 rfl (by kernel_rfl) ?_) | (refine wpList_load_blk 30 (.tmp 7) rfl rfl (B1.alloc _) rfl _ Tryd.underlying30 rfl (by kernel_rfl) ?_) | (refine wpList_load_blk 30 (.tmp 7) rfl rfl ((B1.alloc _).alloc _) rfl _ Tryd.underlying30 rfl (by kernel_rfl) ?_))
    refine (takeP_at HV.out HW.out (by omega) A c _ (HS.out.ext X1.out) (HL.out.ext X1.out)).mono ?_
    rintro e w2 ⟨A3, c3, rfl, s3, x2⟩
    have X2 := Lib.hid (X1.out.trans x2)
    have B2 := B1.ext x2
    have HD2 := Lib.hid (HD1.out.ext x2)
    clear x2 B1
    go_wp2_with (first | (refine wpList_load_blk 30 (.tmp 7) rfl rfl B2 rfl _ Tryd.underlying30 rfl (by kernel_rfl) ?_) | (refine wpList_load_blk 30 (.tmp 7) rfl rfl (B2.alloc _) rfl _ Tryd.underlying30 rfl (by kernel_rfl) ?_) | (refine wpList_load_blk 30 (.tmp 7) rfl rfl ((B2.alloc _).alloc _) rfl _ Tryd.underlying30 rfl (by kernel_rfl) ?_))
    refine (refTake_any A c ls x _ (HS.out.ext X2.out) (by omega)).mono ?_
    intro e w3 hr3
    obtain ⟨A4, c4, rfl, s4, x3⟩ := RetT.read hr3
    have X3 := Lib.hid (X2.out.trans x3)
    have B3 := B2.ext x3
    have HD3 := Lib.hid (HD2.out.ext x3)
    have s3 := s3.ext x3
    clear x3 B2 hr3
    go_wp2_with (first | (refine wpList_load_blk 30 (.tmp 7) rfl rfl B3 rfl _ Tryd.underlying30 rfl (by kernel_rfl) ?_) | (refine wpList_load_blk 30 (.tmp 7) rfl rfl (B3.alloc _) rfl _ Tryd.underlying30 rfl (by kernel_rfl) ?_) | (refine wpList_load_blk 30 (.tmp 7) rfl rfl ((B3.alloc _).alloc _) rfl _ Tryd.underlying30 rfl (by kernel_rfl) ?_))
    refine (freeP_at HV.out HW.out (by omega) A c _ (HS.out.ext X3.out) (HL.out.ext X3.out)).mono ?_
    rintro e w4 ⟨A5, c5, rfl, s5, x4⟩
    have X4 := Lib.hid (X3.out.trans x4)
    have B4 := B3.ext x4
    have HD4 := Lib.hid (HD3.out.ext x4)
    have s3 := s3.ext x4
    have s4 := s4.ext x4
    clear x4 B3
    go_wp2_with (first | (refine wpList_load_blk 30 (.tmp 7) rfl rfl B4 rfl _ Tryd.underlying30 rfl (by kernel_rfl) ?_) | (refine wpList_load_blk 30 (.tmp 7) rfl rfl (B4.alloc _) rfl _ Tryd.underlying30 rfl (by kernel_rfl) ?_) | (refine wpList_load_blk 30 (.tmp 7) rfl rfl ((B4.alloc _).alloc _) rfl _ Tryd.underlying30 rfl (by kernel_rfl) ?_))
    refine (refFree_any A c ls x _ (HS.out.ext X4.out) (by omega)).mono ?_
    intro e w5 hr5
    obtain ⟨A6, c6, rfl, s6, x5⟩ := RetT.read hr5
    have X5 := Lib.hid (X4.out.trans x5)
    have HD5 := Lib.hid (HD4.out.ext x5)
    have s3 := s3.ext x5
    have s4 := s4.ext x5
    have s5 := s5.ext x5
    clear x5 B4 hr5
    generalize (takeR ls x).1 = ta at s3 s4 ⊢
    generalize (takeR ls x).2 = te
    generalize (freeR ls x).1 = fa at s5 s6 ⊢
    generalize (freeR ls x).2 = fe
    have hbk := fun (w' : World) (hx : Ext w5 w') => Blocked_any A A2 c c2 ls cs w' (HS.out.ext (X5.out.trans hx)) (HS2.out.ext (X5.out.trans hx)) (by omega) site now
    have hbk2 := fun (w' : World) (hx : Ext w5 w') => refBlocked_any A A2 c c2 ls cs w' (HS.out.ext (X5.out.trans hx)) (HS2.out.ext (X5.out.trans hx)) (by omega) site now
    rw [blocked_eq HV.out] at hbk
    generalize max (blockedR ls site now cs) 0 = q at hbk hbk2
    generalize decide (0 ≤ blockedR ls site now cs) = qb at hbk hbk2
    have HBK := Lib.hid hbk
    have HBK2 := Lib.hid hbk2
    have S3 := Lib.hid s3; have S4 := Lib.hid s4; have S5 := Lib.hid s5; have S6 := Lib.hid s6
    clear hbk hbk2 s3 s4 s5 s6
    go_wp2_with fail
    refine (HBK.out _ (Ext.refl _)).mono ?_
    rintro e w6 ⟨rfl, x6⟩
    have XA := Lib.hid x6
    clear x6
    go_wp2_with fail
    refine (HBK2.out _ XA.out).mono ?_
    rintro e w7 ⟨rfl, x7⟩
    have XB := Lib.hid (XA.out.trans x7)
    clear x7
    go_wp2_with fail
    refine (refSame_any A3 A4 c3 c4 ta ta w7 (S3.out.ext XB.out) (S4.out.ext XB.out)).mono ?_
    rintro e w8 ⟨rfl, x8⟩
    have XC := Lib.hid (XB.out.trans x8)
    rw [decide_eq_true rfl]
    clear x8
    go_wp2_with fail
    refine (refSame_any A5 A6 c5 c6 fa fa w8 (S5.out.ext XC.out) (S6.out.ext XC.out)).mono ?_
    rintro e w9 ⟨rfl, x9⟩
    rw [decide_eq_true rfl]
    have X9 := Lib.hid (X5.out.trans (XC.out.trans x9))
    have HD9 := Lib.hid (HD5.out.ext (XC.out.trans x9))
    clear x9
    have T9 := HS.out.ext X9.out
    have hfl := filter_len (livesL now) ls
    obtain ⟨lv, hlv⟩ : ∃ lv, lv = ls.filter (livesL now) := ⟨_, rfl⟩
    have HEX := Lib.hid (fun (w' : World) (hx : Ext w9 w') => (Expire_any A c ls _ (T9.ext hx) (by omega) now).mono fun _ _ h => RetL.read h)
    have HEX2 := Lib.hid (fun (w' : World) (hx : Ext w9 w') => (refExpire_any A c ls _ (T9.ext hx) (by omega) now).mono fun _ _ h => RetL.read h)
    rw [← hlv] at HEX HEX2 hfl
    clear hlv
    obtain ⟨o, ho⟩ : ∃ o, o = ownerL ls now p := ⟨_, rfl⟩
    obtain ⟨bb, hbb⟩ : ∃ bb, bb = blocksL ls site now p := ⟨_, rfl⟩
    have HO := Lib.hid ho.symm
    have HBB := Lib.hid hbb.symm
    clear ho hbb
    go_wp2_with fail
    refine wp_region_rel (fun i v w' => match i with
        | 0 => v = .bool true
        | 1 => v = .bool true
        | 2 => v = .bool true
        | 3 => v = .bool true
        | 4 => v = .bool true
        | 5 => v = .slice A ls.length c
        | 6 => v = .int .i64 now
        | 7 => ∃ A8 c8, v = .slice A8 lv.length c8 ∧ Sv w' w'.heap.size 9 A8 c8 (rowsL lv)
        | 8 => v = .slice A ls.length c
        | 9 => v = .int .i64 now
        | 10 => ∃ A8 c8, v = .slice A8 lv.length c8 ∧ Sv w' w'.heap.size 9 A8 c8 (rowsL lv)
        | 11 => v = .bool true
        | 12 => v = .bool true
        | 13 => v = .bool true
        | 14 => v = .slice A ls.length c
        | 15 => v = .int .i64 now
        | 16 => v = .agg #[.int .i64 p.x, .int .i64 p.y, .int .i64 p.z]
        | 17 => v = .int .i64 o
        | 18 => v = .slice A ls.length c
        | 19 => v = .int .i64 now
        | 20 => v = .agg #[.int .i64 p.x, .int .i64 p.y, .int .i64 p.z]
        | 21 => v = .int .i64 o
        | 22 => v = .bool true
        | 23 => v = .bool true
        | 24 => v = .bool true
        | 25 => v = .slice A ls.length c
        | 26 => v = .int .i64 site
        | 27 => v = .int .i64 now
        | 28 => v = .agg #[.int .i64 p.x, .int .i64 p.y, .int .i64 p.z]
        | 29 => v = .bool bb
        | 30 => v = .slice A ls.length c
        | 31 => v = .int .i64 site
        | 32 => v = .int .i64 now
        | 33 => v = .agg #[.int .i64 p.x, .int .i64 p.y, .int .i64 p.z]
        | 34 => v = .bool bb
        | 35 => v = .bool true
        | 36 => v = .bool true
        | 37 => v = .bool true
        | _ => True) hm (by kernel_rfl) (by kernel_rfl) rfl ?_ ?_ ?_
    · intro i v w1 w2 hx h
      match i, h with
      | 0, h => exact h
      | 1, h => exact h
      | 2, h => exact h
      | 3, h => exact h
      | 4, h => exact h
      | 5, h => exact h
      | 6, h => exact h
      | 7, h => exact (fun ⟨A8, c8, e8, s8⟩ => ⟨A8, c8, e8, s8.ext hx⟩) h
      | 8, h => exact h
      | 9, h => exact h
      | 10, h => exact (fun ⟨A8, c8, e8, s8⟩ => ⟨A8, c8, e8, s8.ext hx⟩) h
      | 11, h => exact h
      | 12, h => exact h
      | 13, h => exact h
      | 14, h => exact h
      | 15, h => exact h
      | 16, h => exact h
      | 17, h => exact h
      | 18, h => exact h
      | 19, h => exact h
      | 20, h => exact h
      | 21, h => exact h
      | 22, h => exact h
      | 23, h => exact h
      | 24, h => exact h
      | 25, h => exact h
      | 26, h => exact h
      | 27, h => exact h
      | 28, h => exact h
      | 29, h => exact h
      | 30, h => exact h
      | 31, h => exact h
      | 32, h => exact h
      | 33, h => exact h
      | 34, h => exact h
      | 35, h => exact h
      | 36, h => exact h
      | 37, h => exact h
      | i + 38, h => exact h
    · intro i o ho b w1 hx hmiss hdep K hK
      match i, ho with
      | 0, ho =>
        obtain rfl := Option.some.inj ho
        refine want_none rfl ?_
        have hc : Calls Tryd.prog 10 #[] w1 fun e w' => ∃ v, e = .returned v ∧ Ext w1 w' ∧ (v = .bool true) := (sanity_any w1 (HL.out.ext (X9.out.trans hx))).mono fun e w2 h => ⟨_, h.1, h.2, rfl⟩
        exact op_call (G := fun v w' => v = .bool true) (vs := #[]) rfl (by simp) (fun _ _ => by kernel_rfl) hc (fun v w' h1 h2 => hK v w' h1 h2)
      | 1, ho =>
        obtain rfl := Option.some.inj ho
        obtain ⟨v103, g103, e103⟩ := hdep 0 rfl
        have g103 : v103 = .bool true := g103
        subst g103
        have e103 := e103 103 rfl
        refine want_none rfl ?_
        exact op_move rfl (eval_of e103) (hK _ w1 (Ext.refl _) rfl)
      | 2, ho =>
        obtain rfl := Option.some.inj ho
        have e25 : b.tmps[25]? = some (.bool true) := hmiss 25 rfl
        obtain ⟨vg, gg, eg⟩ := hdep 1 rfl
        have gg : vg = .bool true := gg
        subst gg
        have eg := eg 104 rfl
        refine want_yes rfl rfl eg ?_
        exact op_move rfl (eval_of e25) (hK _ w1 (Ext.refl _) rfl)
      | 3, ho =>
        obtain rfl := Option.some.inj ho
        obtain ⟨v104, g104, e104⟩ := hdep 1 rfl
        have g104 : v104 = .bool true := g104
        subst g104
        have e104 := e104 104 rfl
        obtain ⟨v105, g105, e105⟩ := hdep 2 rfl
        have g105 : v105 = .bool true := g105
        subst g105
        have e105 := e105 105 rfl
        refine want_none rfl ?_
        exact op_run (by unfold execOp; simp [e104, e105, Act.eval, go_sem]) (hK _ w1 (Ext.refl _) rfl)
      | 4, ho =>
        obtain rfl := Option.some.inj ho
        obtain ⟨v106, g106, e106⟩ := hdep 3 rfl
        have g106 : v106 = .bool true := g106
        subst g106
        have e106 := e106 106 rfl
        refine want_none rfl ?_
        exact op_move rfl (eval_of e106) (hK _ w1 (Ext.refl _) rfl)
      | 5, ho =>
        obtain rfl := Option.some.inj ho
        have e0 : b.tmps[0]? = some (.slice A ls.length c) := hmiss 0 rfl
        obtain ⟨vg, gg, eg⟩ := hdep 4 rfl
        have gg : vg = .bool true := gg
        subst gg
        have eg := eg 107 rfl
        refine want_yes rfl rfl eg ?_
        exact op_move rfl (eval_of e0) (hK _ w1 (Ext.refl _) rfl)
      | 6, ho =>
        obtain rfl := Option.some.inj ho
        have e3 : b.tmps[3]? = some (.int .i64 now) := hmiss 3 rfl
        obtain ⟨vg, gg, eg⟩ := hdep 4 rfl
        have gg : vg = .bool true := gg
        subst gg
        have eg := eg 107 rfl
        refine want_yes rfl rfl eg ?_
        exact op_move rfl (eval_of e3) (hK _ w1 (Ext.refl _) rfl)
      | 7, ho =>
        obtain rfl := Option.some.inj ho
        obtain ⟨v108, g108, e108⟩ := hdep 5 rfl
        have g108 : v108 = .slice A ls.length c := g108
        subst g108
        have e108 := e108 108 rfl
        obtain ⟨v109, g109, e109⟩ := hdep 6 rfl
        have g109 : v109 = .int .i64 now := g109
        subst g109
        have e109 := e109 109 rfl
        obtain ⟨vg, gg, eg⟩ := hdep 4 rfl
        have gg : vg = .bool true := gg
        subst gg
        have eg := eg 107 rfl
        refine want_yes rfl rfl eg ?_
        have hc : Calls Tryd.prog 18 #[.slice A ls.length c, .int .i64 now] w1 fun e w' => ∃ v, e = .returned v ∧ Ext w1 w' ∧ (∃ A8 c8, v = .slice A8 lv.length c8 ∧ Sv w' w'.heap.size 9 A8 c8 (rowsL lv)) := (HEX.out _ hx).mono fun e w2 ⟨A8, c8, h1, h2, h3⟩ => ⟨_, h1, h3, A8, c8, rfl, h2⟩
        exact op_call (G := fun v w' => ∃ A8 c8, v = .slice A8 lv.length c8 ∧ Sv w' w'.heap.size 9 A8 c8 (rowsL lv)) rfl (by simp [eval_of e108, eval_of e109]) (fun _ _ => by kernel_rfl) hc (fun v w' h1 h2 => hK v w' h1 h2)
      | 8, ho =>
        obtain rfl := Option.some.inj ho
        have e0 : b.tmps[0]? = some (.slice A ls.length c) := hmiss 0 rfl
        obtain ⟨vg, gg, eg⟩ := hdep 4 rfl
        have gg : vg = .bool true := gg
        subst gg
        have eg := eg 107 rfl
        refine want_yes rfl rfl eg ?_
        exact op_move rfl (eval_of e0) (hK _ w1 (Ext.refl _) rfl)
      | 9, ho =>
        obtain rfl := Option.some.inj ho
        have e3 : b.tmps[3]? = some (.int .i64 now) := hmiss 3 rfl
        obtain ⟨vg, gg, eg⟩ := hdep 4 rfl
        have gg : vg = .bool true := gg
        subst gg
        have eg := eg 107 rfl
        refine want_yes rfl rfl eg ?_
        exact op_move rfl (eval_of e3) (hK _ w1 (Ext.refl _) rfl)
      | 10, ho =>
        obtain rfl := Option.some.inj ho
        obtain ⟨v111, g111, e111⟩ := hdep 8 rfl
        have g111 : v111 = .slice A ls.length c := g111
        subst g111
        have e111 := e111 111 rfl
        obtain ⟨v112, g112, e112⟩ := hdep 9 rfl
        have g112 : v112 = .int .i64 now := g112
        subst g112
        have e112 := e112 112 rfl
        obtain ⟨vg, gg, eg⟩ := hdep 4 rfl
        have gg : vg = .bool true := gg
        subst gg
        have eg := eg 107 rfl
        refine want_yes rfl rfl eg ?_
        have hc : Calls Tryd.prog 19 #[.slice A ls.length c, .int .i64 now] w1 fun e w' => ∃ v, e = .returned v ∧ Ext w1 w' ∧ (∃ A8 c8, v = .slice A8 lv.length c8 ∧ Sv w' w'.heap.size 9 A8 c8 (rowsL lv)) := (HEX2.out _ hx).mono fun e w2 ⟨A8, c8, h1, h2, h3⟩ => ⟨_, h1, h3, A8, c8, rfl, h2⟩
        exact op_call (G := fun v w' => ∃ A8 c8, v = .slice A8 lv.length c8 ∧ Sv w' w'.heap.size 9 A8 c8 (rowsL lv)) rfl (by simp [eval_of e111, eval_of e112]) (fun _ _ => by kernel_rfl) hc (fun v w' h1 h2 => hK v w' h1 h2)
      | 11, ho =>
        obtain rfl := Option.some.inj ho
        obtain ⟨v110, g110, e110⟩ := hdep 7 rfl
        obtain ⟨A8, c8, rfl, s8⟩ := g110
        have e110 := e110 110 rfl
        obtain ⟨v113, g113, e113⟩ := hdep 10 rfl
        obtain ⟨A9, c9, rfl, s9⟩ := g113
        have e113 := e113 113 rfl
        obtain ⟨vg, gg, eg⟩ := hdep 4 rfl
        have gg : vg = .bool true := gg
        subst gg
        have eg := eg 107 rfl
        refine want_yes rfl rfl eg ?_
        have hc : Calls Tryd.prog 17 #[.slice A8 lv.length c8, .slice A9 lv.length c9] w1 fun e w' => ∃ v, e = .returned v ∧ Ext w1 w' ∧ (v = .bool true) := (refSame_any A8 A9 c8 c9 lv lv w1 s8 s9).mono fun e w2 h => ⟨_, h.1, h.2, by rw [decide_eq_true rfl]⟩
        exact op_call (G := fun v w' => v = .bool true) rfl (by simp [eval_of e110, eval_of e113]) (fun _ _ => by kernel_rfl) hc (fun v w' h1 h2 => hK v w' h1 h2)
      | 12, ho =>
        obtain rfl := Option.some.inj ho
        obtain ⟨v107, g107, e107⟩ := hdep 4 rfl
        have g107 : v107 = .bool true := g107
        subst g107
        have e107 := e107 107 rfl
        obtain ⟨v114, g114, e114⟩ := hdep 11 rfl
        have g114 : v114 = .bool true := g114
        subst g114
        have e114 := e114 114 rfl
        refine want_none rfl ?_
        exact op_run (by unfold execOp; simp [e107, e114, Act.eval, go_sem]) (hK _ w1 (Ext.refl _) rfl)
      | 13, ho =>
        obtain rfl := Option.some.inj ho
        obtain ⟨v115, g115, e115⟩ := hdep 12 rfl
        have g115 : v115 = .bool true := g115
        subst g115
        have e115 := e115 115 rfl
        refine want_none rfl ?_
        exact op_move rfl (eval_of e115) (hK _ w1 (Ext.refl _) rfl)
      | 14, ho =>
        obtain rfl := Option.some.inj ho
        have e0 : b.tmps[0]? = some (.slice A ls.length c) := hmiss 0 rfl
        obtain ⟨vg, gg, eg⟩ := hdep 13 rfl
        have gg : vg = .bool true := gg
        subst gg
        have eg := eg 116 rfl
        refine want_yes rfl rfl eg ?_
        exact op_move rfl (eval_of e0) (hK _ w1 (Ext.refl _) rfl)
      | 15, ho =>
        obtain rfl := Option.some.inj ho
        have e3 : b.tmps[3]? = some (.int .i64 now) := hmiss 3 rfl
        obtain ⟨vg, gg, eg⟩ := hdep 13 rfl
        have gg : vg = .bool true := gg
        subst gg
        have eg := eg 116 rfl
        refine want_yes rfl rfl eg ?_
        exact op_move rfl (eval_of e3) (hK _ w1 (Ext.refl _) rfl)
      | 16, ho =>
        obtain rfl := Option.some.inj ho
        have e10 : b.tmps[10]? = some (.pointer (some ⟨w.heap.size + 1, 0, none⟩)) := hmiss 10 rfl
        obtain ⟨vg, gg, eg⟩ := hdep 13 rfl
        have gg : vg = .bool true := gg
        subst gg
        have eg := eg 116 rfl
        refine want_yes rfl rfl eg ?_
        exact op_loadrow rfl (eval_of e10) (HD9.out.ext hx) _ Tryd.underlying26 rfl (by kernel_rfl) (hK _ w1 (Ext.refl _) rfl)
      | 17, ho =>
        obtain rfl := Option.some.inj ho
        obtain ⟨v117, g117, e117⟩ := hdep 14 rfl
        have g117 : v117 = .slice A ls.length c := g117
        subst g117
        have e117 := e117 117 rfl
        obtain ⟨v118, g118, e118⟩ := hdep 15 rfl
        have g118 : v118 = .int .i64 now := g118
        subst g118
        have e118 := e118 118 rfl
        obtain ⟨v119, g119, e119⟩ := hdep 16 rfl
        have g119 : v119 = .agg #[.int .i64 p.x, .int .i64 p.y, .int .i64 p.z] := g119
        subst g119
        have e119 := e119 119 rfl
        obtain ⟨vg, gg, eg⟩ := hdep 13 rfl
        have gg : vg = .bool true := gg
        subst gg
        have eg := eg 116 rfl
        refine want_yes rfl rfl eg ?_
        have hc : Calls Tryd.prog 20 #[.slice A ls.length c, .int .i64 now, .agg #[.int .i64 p.x, .int .i64 p.y, .int .i64 p.z]] w1 fun e w' => ∃ v, e = .returned v ∧ Ext w1 w' ∧ (v = .int .i64 o) := (owner_at HO.out (by omega) A c w1 (T9.ext hx)).mono fun e w2 h => ⟨_, h.1, h.2, rfl⟩
        exact op_call (G := fun v w' => v = .int .i64 o) rfl (by simp [eval_of e117, eval_of e118, eval_of e119]) (fun _ _ => by kernel_rfl) hc (fun v w' h1 h2 => hK v w' h1 h2)
      | 18, ho =>
        obtain rfl := Option.some.inj ho
        have e0 : b.tmps[0]? = some (.slice A ls.length c) := hmiss 0 rfl
        obtain ⟨vg, gg, eg⟩ := hdep 13 rfl
        have gg : vg = .bool true := gg
        subst gg
        have eg := eg 116 rfl
        refine want_yes rfl rfl eg ?_
        exact op_move rfl (eval_of e0) (hK _ w1 (Ext.refl _) rfl)
      | 19, ho =>
        obtain rfl := Option.some.inj ho
        have e3 : b.tmps[3]? = some (.int .i64 now) := hmiss 3 rfl
        obtain ⟨vg, gg, eg⟩ := hdep 13 rfl
        have gg : vg = .bool true := gg
        subst gg
        have eg := eg 116 rfl
        refine want_yes rfl rfl eg ?_
        exact op_move rfl (eval_of e3) (hK _ w1 (Ext.refl _) rfl)
      | 20, ho =>
        obtain rfl := Option.some.inj ho
        have e10 : b.tmps[10]? = some (.pointer (some ⟨w.heap.size + 1, 0, none⟩)) := hmiss 10 rfl
        obtain ⟨vg, gg, eg⟩ := hdep 13 rfl
        have gg : vg = .bool true := gg
        subst gg
        have eg := eg 116 rfl
        refine want_yes rfl rfl eg ?_
        exact op_loadrow rfl (eval_of e10) (HD9.out.ext hx) _ Tryd.underlying26 rfl (by kernel_rfl) (hK _ w1 (Ext.refl _) rfl)
      | 21, ho =>
        obtain rfl := Option.some.inj ho
        obtain ⟨v121, g121, e121⟩ := hdep 18 rfl
        have g121 : v121 = .slice A ls.length c := g121
        subst g121
        have e121 := e121 121 rfl
        obtain ⟨v122, g122, e122⟩ := hdep 19 rfl
        have g122 : v122 = .int .i64 now := g122
        subst g122
        have e122 := e122 122 rfl
        obtain ⟨v123, g123, e123⟩ := hdep 20 rfl
        have g123 : v123 = .agg #[.int .i64 p.x, .int .i64 p.y, .int .i64 p.z] := g123
        subst g123
        have e123 := e123 123 rfl
        obtain ⟨vg, gg, eg⟩ := hdep 13 rfl
        have gg : vg = .bool true := gg
        subst gg
        have eg := eg 116 rfl
        refine want_yes rfl rfl eg ?_
        have hc : Calls Tryd.prog 21 #[.slice A ls.length c, .int .i64 now, .agg #[.int .i64 p.x, .int .i64 p.y, .int .i64 p.z]] w1 fun e w' => ∃ v, e = .returned v ∧ Ext w1 w' ∧ (v = .int .i64 o) := (HO.out ▸ refOwner_any A c ls w1 (T9.ext hx) (by omega) now p).mono fun e w2 h => ⟨_, h.1, h.2, rfl⟩
        exact op_call (G := fun v w' => v = .int .i64 o) rfl (by simp [eval_of e121, eval_of e122, eval_of e123]) (fun _ _ => by kernel_rfl) hc (fun v w' h1 h2 => hK v w' h1 h2)
      | 22, ho =>
        obtain rfl := Option.some.inj ho
        obtain ⟨v120, g120, e120⟩ := hdep 17 rfl
        have g120 : v120 = .int .i64 o := g120
        subst g120
        have e120 := e120 120 rfl
        obtain ⟨v124, g124, e124⟩ := hdep 21 rfl
        have g124 : v124 = .int .i64 o := g124
        subst g124
        have e124 := e124 124 rfl
        obtain ⟨vg, gg, eg⟩ := hdep 13 rfl
        have gg : vg = .bool true := gg
        subst gg
        have eg := eg 116 rfl
        refine want_yes rfl rfl eg ?_
        exact op_run (by unfold execOp; simp [e120, e124, Act.eval, go_sem]) (hK _ w1 (Ext.refl _) rfl)
      | 23, ho =>
        obtain rfl := Option.some.inj ho
        obtain ⟨v116, g116, e116⟩ := hdep 13 rfl
        have g116 : v116 = .bool true := g116
        subst g116
        have e116 := e116 116 rfl
        obtain ⟨v125, g125, e125⟩ := hdep 22 rfl
        have g125 : v125 = .bool true := g125
        subst g125
        have e125 := e125 125 rfl
        refine want_none rfl ?_
        exact op_run (by unfold execOp; simp [e116, e125, Act.eval, go_sem]) (hK _ w1 (Ext.refl _) rfl)
      | 24, ho =>
        obtain rfl := Option.some.inj ho
        obtain ⟨v126, g126, e126⟩ := hdep 23 rfl
        have g126 : v126 = .bool true := g126
        subst g126
        have e126 := e126 126 rfl
        refine want_none rfl ?_
        exact op_move rfl (eval_of e126) (hK _ w1 (Ext.refl _) rfl)
      | 25, ho =>
        obtain rfl := Option.some.inj ho
        have e0 : b.tmps[0]? = some (.slice A ls.length c) := hmiss 0 rfl
        obtain ⟨vg, gg, eg⟩ := hdep 24 rfl
        have gg : vg = .bool true := gg
        subst gg
        have eg := eg 127 rfl
        refine want_yes rfl rfl eg ?_
        exact op_move rfl (eval_of e0) (hK _ w1 (Ext.refl _) rfl)
      | 26, ho =>
        obtain rfl := Option.some.inj ho
        have e2 : b.tmps[2]? = some (.int .i64 site) := hmiss 2 rfl
        obtain ⟨vg, gg, eg⟩ := hdep 24 rfl
        have gg : vg = .bool true := gg
        subst gg
        have eg := eg 127 rfl
        refine want_yes rfl rfl eg ?_
        exact op_move rfl (eval_of e2) (hK _ w1 (Ext.refl _) rfl)
      | 27, ho =>
        obtain rfl := Option.some.inj ho
        have e3 : b.tmps[3]? = some (.int .i64 now) := hmiss 3 rfl
        obtain ⟨vg, gg, eg⟩ := hdep 24 rfl
        have gg : vg = .bool true := gg
        subst gg
        have eg := eg 127 rfl
        refine want_yes rfl rfl eg ?_
        exact op_move rfl (eval_of e3) (hK _ w1 (Ext.refl _) rfl)
      | 28, ho =>
        obtain rfl := Option.some.inj ho
        have e10 : b.tmps[10]? = some (.pointer (some ⟨w.heap.size + 1, 0, none⟩)) := hmiss 10 rfl
        obtain ⟨vg, gg, eg⟩ := hdep 24 rfl
        have gg : vg = .bool true := gg
        subst gg
        have eg := eg 127 rfl
        refine want_yes rfl rfl eg ?_
        exact op_loadrow rfl (eval_of e10) (HD9.out.ext hx) _ Tryd.underlying26 rfl (by kernel_rfl) (hK _ w1 (Ext.refl _) rfl)
      | 29, ho =>
        obtain rfl := Option.some.inj ho
        obtain ⟨v128, g128, e128⟩ := hdep 25 rfl
        have g128 : v128 = .slice A ls.length c := g128
        subst g128
        have e128 := e128 128 rfl
        obtain ⟨v129, g129, e129⟩ := hdep 26 rfl
        have g129 : v129 = .int .i64 site := g129
        subst g129
        have e129 := e129 129 rfl
        obtain ⟨v130, g130, e130⟩ := hdep 27 rfl
        have g130 : v130 = .int .i64 now := g130
        subst g130
        have e130 := e130 130 rfl
        obtain ⟨v131, g131, e131⟩ := hdep 28 rfl
        have g131 : v131 = .agg #[.int .i64 p.x, .int .i64 p.y, .int .i64 p.z] := g131
        subst g131
        have e131 := e131 131 rfl
        obtain ⟨vg, gg, eg⟩ := hdep 24 rfl
        have gg : vg = .bool true := gg
        subst gg
        have eg := eg 127 rfl
        refine want_yes rfl rfl eg ?_
        have hc : Calls Tryd.prog 22 #[.slice A ls.length c, .int .i64 site, .int .i64 now, .agg #[.int .i64 p.x, .int .i64 p.y, .int .i64 p.z]] w1 fun e w' => ∃ v, e = .returned v ∧ Ext w1 w' ∧ (v = .bool bb) := (blocks_at HBB.out (by omega) A c w1 (T9.ext hx)).mono fun e w2 h => ⟨_, h.1, h.2, rfl⟩
        exact op_call (G := fun v w' => v = .bool bb) rfl (by simp [eval_of e128, eval_of e129, eval_of e130, eval_of e131]) (fun _ _ => by kernel_rfl) hc (fun v w' h1 h2 => hK v w' h1 h2)
      | 30, ho =>
        obtain rfl := Option.some.inj ho
        have e0 : b.tmps[0]? = some (.slice A ls.length c) := hmiss 0 rfl
        obtain ⟨vg, gg, eg⟩ := hdep 24 rfl
        have gg : vg = .bool true := gg
        subst gg
        have eg := eg 127 rfl
        refine want_yes rfl rfl eg ?_
        exact op_move rfl (eval_of e0) (hK _ w1 (Ext.refl _) rfl)
      | 31, ho =>
        obtain rfl := Option.some.inj ho
        have e2 : b.tmps[2]? = some (.int .i64 site) := hmiss 2 rfl
        obtain ⟨vg, gg, eg⟩ := hdep 24 rfl
        have gg : vg = .bool true := gg
        subst gg
        have eg := eg 127 rfl
        refine want_yes rfl rfl eg ?_
        exact op_move rfl (eval_of e2) (hK _ w1 (Ext.refl _) rfl)
      | 32, ho =>
        obtain rfl := Option.some.inj ho
        have e3 : b.tmps[3]? = some (.int .i64 now) := hmiss 3 rfl
        obtain ⟨vg, gg, eg⟩ := hdep 24 rfl
        have gg : vg = .bool true := gg
        subst gg
        have eg := eg 127 rfl
        refine want_yes rfl rfl eg ?_
        exact op_move rfl (eval_of e3) (hK _ w1 (Ext.refl _) rfl)
      | 33, ho =>
        obtain rfl := Option.some.inj ho
        have e10 : b.tmps[10]? = some (.pointer (some ⟨w.heap.size + 1, 0, none⟩)) := hmiss 10 rfl
        obtain ⟨vg, gg, eg⟩ := hdep 24 rfl
        have gg : vg = .bool true := gg
        subst gg
        have eg := eg 127 rfl
        refine want_yes rfl rfl eg ?_
        exact op_loadrow rfl (eval_of e10) (HD9.out.ext hx) _ Tryd.underlying26 rfl (by kernel_rfl) (hK _ w1 (Ext.refl _) rfl)
      | 34, ho =>
        obtain rfl := Option.some.inj ho
        obtain ⟨v133, g133, e133⟩ := hdep 30 rfl
        have g133 : v133 = .slice A ls.length c := g133
        subst g133
        have e133 := e133 133 rfl
        obtain ⟨v134, g134, e134⟩ := hdep 31 rfl
        have g134 : v134 = .int .i64 site := g134
        subst g134
        have e134 := e134 134 rfl
        obtain ⟨v135, g135, e135⟩ := hdep 32 rfl
        have g135 : v135 = .int .i64 now := g135
        subst g135
        have e135 := e135 135 rfl
        obtain ⟨v136, g136, e136⟩ := hdep 33 rfl
        have g136 : v136 = .agg #[.int .i64 p.x, .int .i64 p.y, .int .i64 p.z] := g136
        subst g136
        have e136 := e136 136 rfl
        obtain ⟨vg, gg, eg⟩ := hdep 24 rfl
        have gg : vg = .bool true := gg
        subst gg
        have eg := eg 127 rfl
        refine want_yes rfl rfl eg ?_
        have hc : Calls Tryd.prog 23 #[.slice A ls.length c, .int .i64 site, .int .i64 now, .agg #[.int .i64 p.x, .int .i64 p.y, .int .i64 p.z]] w1 fun e w' => ∃ v, e = .returned v ∧ Ext w1 w' ∧ (v = .bool bb) := (HBB.out ▸ refBlocks_any A c ls w1 (T9.ext hx) (by omega) site now p).mono fun e w2 h => ⟨_, h.1, h.2, rfl⟩
        exact op_call (G := fun v w' => v = .bool bb) rfl (by simp [eval_of e133, eval_of e134, eval_of e135, eval_of e136]) (fun _ _ => by kernel_rfl) hc (fun v w' h1 h2 => hK v w' h1 h2)
      | 35, ho =>
        obtain rfl := Option.some.inj ho
        obtain ⟨v132, g132, e132⟩ := hdep 29 rfl
        have g132 : v132 = .bool bb := g132
        subst g132
        have e132 := e132 132 rfl
        obtain ⟨v137, g137, e137⟩ := hdep 34 rfl
        have g137 : v137 = .bool bb := g137
        subst g137
        have e137 := e137 137 rfl
        obtain ⟨vg, gg, eg⟩ := hdep 24 rfl
        have gg : vg = .bool true := gg
        subst gg
        have eg := eg 127 rfl
        refine want_yes rfl rfl eg ?_
        exact op_run (by unfold execOp; simp [e132, e137, Act.eval, go_sem]) (hK _ w1 (Ext.refl _) rfl)
      | 36, ho =>
        obtain rfl := Option.some.inj ho
        obtain ⟨v127, g127, e127⟩ := hdep 24 rfl
        have g127 : v127 = .bool true := g127
        subst g127
        have e127 := e127 127 rfl
        obtain ⟨v138, g138, e138⟩ := hdep 35 rfl
        have g138 : v138 = .bool true := g138
        subst g138
        have e138 := e138 138 rfl
        refine want_none rfl ?_
        exact op_run (by unfold execOp; simp [e127, e138, Act.eval, go_sem]) (hK _ w1 (Ext.refl _) rfl)
      | 37, ho =>
        obtain rfl := Option.some.inj ho
        obtain ⟨v139, g139, e139⟩ := hdep 36 rfl
        have g139 : v139 = .bool true := g139
        subst g139
        have e139 := e139 139 rfl
        refine want_none rfl ?_
        exact op_assign rfl (eval_of e139) (hK _ w1 (Ext.refl _) rfl)
      | i + 38, ho => cases ho
    · intro V w9 hx hg
      have g0 : V 0 = .bool true := hg 0 (by decide)
      have g1 : V 1 = .bool true := hg 1 (by decide)
      have g2 : V 2 = .bool true := hg 2 (by decide)
      have g3 : V 3 = .bool true := hg 3 (by decide)
      have g4 : V 4 = .bool true := hg 4 (by decide)
      have g5 : V 5 = .slice A ls.length c := hg 5 (by decide)
      have g6 : V 6 = .int .i64 now := hg 6 (by decide)
      have g8 : V 8 = .slice A ls.length c := hg 8 (by decide)
      have g9 : V 9 = .int .i64 now := hg 9 (by decide)
      have g11 : V 11 = .bool true := hg 11 (by decide)
      have g12 : V 12 = .bool true := hg 12 (by decide)
      have g13 : V 13 = .bool true := hg 13 (by decide)
      have g14 : V 14 = .slice A ls.length c := hg 14 (by decide)
      have g15 : V 15 = .int .i64 now := hg 15 (by decide)
      have g16 : V 16 = .agg #[.int .i64 p.x, .int .i64 p.y, .int .i64 p.z] := hg 16 (by decide)
      have g17 : V 17 = .int .i64 o := hg 17 (by decide)
      have g18 : V 18 = .slice A ls.length c := hg 18 (by decide)
      have g19 : V 19 = .int .i64 now := hg 19 (by decide)
      have g20 : V 20 = .agg #[.int .i64 p.x, .int .i64 p.y, .int .i64 p.z] := hg 20 (by decide)
      have g21 : V 21 = .int .i64 o := hg 21 (by decide)
      have g22 : V 22 = .bool true := hg 22 (by decide)
      have g23 : V 23 = .bool true := hg 23 (by decide)
      have g24 : V 24 = .bool true := hg 24 (by decide)
      have g25 : V 25 = .slice A ls.length c := hg 25 (by decide)
      have g26 : V 26 = .int .i64 site := hg 26 (by decide)
      have g27 : V 27 = .int .i64 now := hg 27 (by decide)
      have g28 : V 28 = .agg #[.int .i64 p.x, .int .i64 p.y, .int .i64 p.z] := hg 28 (by decide)
      have g29 : V 29 = .bool bb := hg 29 (by decide)
      have g30 : V 30 = .slice A ls.length c := hg 30 (by decide)
      have g31 : V 31 = .int .i64 site := hg 31 (by decide)
      have g32 : V 32 = .int .i64 now := hg 32 (by decide)
      have g33 : V 33 = .agg #[.int .i64 p.x, .int .i64 p.y, .int .i64 p.z] := hg 33 (by decide)
      have g34 : V 34 = .bool bb := hg 34 (by decide)
      have g35 : V 35 = .bool true := hg 35 (by decide)
      have g36 : V 36 = .bool true := hg 36 (by decide)
      have g37 : V 37 = .bool true := hg 37 (by decide)
      have g7 := hg 7 (by decide)
      have g10 := hg 10 (by decide)
      simp only [List.length_cons, List.length_nil, fillAllN, dstOf, Act.put, List.getElem?_toArray, List.getElem?_cons_zero, List.getElem?_cons_succ, Option.bind_some, g0, g1, g2, g3, g4, g5, g6, g8, g9, g11, g12, g13, g14, g15, g16, g17, g18, g19, g20, g21, g22, g23, g24, g25, g26, g27, g28, g29, g30, g31, g32, g33, g34, g35, g36, g37, List.setIfInBounds_toArray, List.set_cons_zero, List.set_cons_succ]
      clear g0 g1 g2 g3 g4 g5 g6 g8 g9 g11 g12 g13 g14 g15 g16 g17 g18 g19 g20 g21 g22 g23 g24 g25 g26 g27 g28 g29 g30 g31 g32 g33 g34 g35 g36 g37 hg
      go_wp2
      go_ret
      exact ⟨rfl, X9.out.trans hx⟩
end Go.Proofs.YtjceebpafnnffaaDoor

namespace Go.Proofs.YtjceebpafnnffaaDoor
open Go Go.RowKit Go.ChangeShapes Go.WideShapes Go.ChangeAt

set_option maxHeartbeats 1600000 in
set_option maxRecDepth 100000 in
theorem lockMatchesSpec_lifted (os : Os) (started : os.Started) (H : Type) (enc : TypeId × Value → H) :
    ReturnsInHanded {} Tryd.checked os 3 .any (fun w args => (Rows.lockMatchesSpecSpec.pre enc Tryd.prog Tryd.f3 Rows.lockMatchesSpecRow.domain false w args ∧ laidMetH Tryd.prog laidL w) ∧ sizedMet enc Tryd.prog Tryd.f3 (OpenSpec.ofChange Rows.lockMatchesSpecSpec) false w args) (Rows.lockMatchesSpecSpec.post enc Tryd.prog Tryd.f3 false true false false) := by
  refine returnsInHanded_of_change_and (C := Tryd.checked) (X := fun w _ => laidMetH Tryd.prog laidL w) (fun _ _ _ hh h => h.of_heap hh) own_ started (by kernel_rfl) Tryd.func3
    (ChangeSpec.witness_shaped (enc := enc) (C := Tryd.checked) (os := os) (X := fun w _ => laidMetH Tryd.prog laidL w) false (World.laidAll Tryd.prog os laidL) #[.slice none 0 0, .agg #[.int .i64 0, .int .i64 0, .int .i64 0, .int .i64 0, .int .i64 0, .int .i64 0, .int .i64 0, .int .i64 0, .int .i64 0, .int .i64 0, .int .i64 0, .int .i64 0, .int .i64 0, .int .i64 0, .int .i64 0, .int .i64 0, .int .i64 0], .int .i64 0, .int .i64 0, .agg #[.int .i64 0, .int .i64 0, .int .i64 0], .slice none 0 0] 8 (World.laidAll_os _ _ _) (World.shaped_of_ZipB (by kernel_rfl) (by kernel_rfl)) (by kernel_rfl) (by kernel_rfl) (by kernel_rfl)
      (by rw [MakeChecks.laidMetH_plain _ _ _ (by kernel_rfl)]; exact laidMet_laidAll _ (by kernel_rfl) (by kernel_rfl))) ?_
  intro W base args ds gs before hval0 hW hcnd _ hLd _
  have hval : ∀ (j : Nat) t v, Tryd.f3.params[j]? = some t → args[j]? = some v → Value.okWide Tryd.prog W .any base t v := hval0
  have hLd := laid_of hLd
  have hW' := hW
  obtain ⟨p, q, hA0, hV, rfl, hfz, hnd⟩ := hW
  have hA : DataW.TrodAll enc Tryd.prog W 0 (fun _ => true) true Tryd.f3.params.toList args.toList ds p := hA0
  have hAll := hA
  rw [Tryd.params3] at hA hval
  obtain ⟨v0, vs0, d0, ds0, p0, q0, ha, rfl, rfl, h0, r0⟩ := trodAll_cons hA
  obtain ⟨v1, vs1, d1, ds1, p1, q1, rfl, rfl, rfl, h1, r1⟩ := trodAll_cons r0
  obtain ⟨v2, vs2, d2, ds2, p2, q2, rfl, rfl, rfl, h2, r2⟩ := trodAll_cons r1
  obtain ⟨v3, vs3, d3, ds3, p3, q3, rfl, rfl, rfl, h3, r3⟩ := trodAll_cons r2
  obtain ⟨v4, vs4, d4, ds4, p4, q4, rfl, rfl, rfl, h4, r4⟩ := trodAll_cons r3
  obtain ⟨v5, vs5, d5, ds5, p5, q5, rfl, rfl, rfl, h5, r5⟩ := trodAll_cons r4
  obtain ⟨rfl, rfl, rfl⟩ := trodAll_nil r5
  obtain ⟨rfl, rfl⟩ := trodVars_none hV
  have hargs : args = #[v0, v1, v2, v3, v4, v5] := by apply Array.ext'; exact ha
  subst hargs
  obtain ⟨A, c, l, rfl, hs⟩ := read_locks (hval 0 _ _ rfl rfl) h0
  obtain ⟨x, rfl, hfit⟩ := read_Ed (hval 1 _ _ rfl rfl) h1
  obtain ⟨site, rfl, rfl, rfl, _⟩ := open_int Tryd.underlying3 (hval 2 _ _ rfl rfl) h2
  obtain ⟨now, rfl, rfl, rfl, _⟩ := open_int Tryd.underlying3 (hval 3 _ _ rfl rfl) h3
  obtain ⟨p, rfl⟩ := read_Pt (hval 4 _ _ rfl rfl) h4
  obtain ⟨A2, c2, cs, rfl, hs2⟩ := read_changes (hval 5 _ _ rfl rfl) h5
  refine (LockMatchesSpec_any A A2 c c2 l cs x site now p W hs hs2 hfit.1 hLd).mono fun e W' ⟨he, hx⟩ => ?_
  subst he
  have hlt : ∀ x, x ∈ (p0 ++ (p1 ++ ([] ++ ([] ++ (p4 ++ (p5 ++ [])))))) → x.block < W.heap.size := fun x hx2 => hW'.lt x (by simpa using hx2)
  exact ⟨_, rfl, _, _, _, [], _, [], hW', trodAll_mk1 (shut_bool Tryd.underlying4 true), args_below laidOut_ _ _ _ _ W' (by rw [Tryd.params3]; intro t ht; simp at ht; rcases ht with rfl | rfl | rfl | rfl | rfl <;> exact ⟨by kernel_rfl, of_decide_eq_true (by kernel_rfl)⟩) hAll hx.below hlt, rfl, hx.below.frame _, fun h => by cases h⟩

theorem lockMatchesSpec_row : Rows.LockMatchesSpecSaid :=
  OpenClaim.holds_of_wide 3 Tryd.f3 rfl rfl rfl rfl rfl rfl rfl ⟨rfl, rfl, rfl, rfl, rfl⟩ rfl rfl rfl rfl rfl (by kernel_rfl) Tryd.func3 (by kernel_rfl)
    (of_decide_eq_true (by kernel_rfl)) (by unfold Func.isWrapper; rw [if_neg (of_decide_eq_false (by kernel_rfl))]; exact ⟨rfl, rfl⟩)
    (fun os started H enc _ => lockMatchesSpec_lifted os started H enc)

theorem lockMatchesSpec_holds : Rows.LockMatchesSpecCardSaid :=
  Claim7.holds_tied_plain_at .later [] [.data, .data] true Rows.lockMatchesSpecCard.stood.harness false
    lockMatchesSpec_row (fun _ h => by cases h) (by kernel_rfl) (fun _ h => by cases h) lockMatchesSpec_row_tie rfl ⟨rfl, rfl⟩ (by kernel_rfl) rfl
    (fun f fn hf hfn => by
      obtain rfl : f = 3 := Option.some.inj ((show Tryd.prog.funcNamed "voxel/voxellaw28.LockMatchesSpec" = some 3 by kernel_rfl).symm.trans hf) |>.symm
      obtain rfl : fn = Tryd.f3 := (Option.some.inj (Tryd.func3.symm.trans hfn)).symm
      exact ⟨by kernel_rfl, fun j t ht => by
        rw [Tryd.params3] at ht
        have hm : t ∈ [22, 30, 3, 3, 26, 31] := by simpa using Array.mem_of_getElem? ht
        have hall : ([22, 30, 3, 3, 26, 31].all fun u => !Tryd.prog.wantsStandIn u) = true := by kernel_rfl
        exact (show Tryd.prog.wantsStandIn t = false by simpa using List.all_eq_true.1 hall t hm)⟩)
    (by kernel_rfl)
end Go.Proofs.YtjceebpafnnffaaDoor
