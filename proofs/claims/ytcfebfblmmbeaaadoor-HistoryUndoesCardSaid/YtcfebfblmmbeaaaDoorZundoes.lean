/- YtcfebfblmmbeaaaDoorJd · YtcfebfblmmbeaaaDoorJdP -/
import Derived.Test.YtcfebfblmmbeaaaDoorTie
import Derived.Test.YtcfebfblmmbeaaaDoorCards
import Derived.LaidLaws
import Derived.SevenTiedAt
import Derived.Test.YtcfebfblmmbeaaaDoorZa9
/- HistoryUndoes. -/
namespace Go.Proofs.YtcfebfblmmbeaaaDoor
open Go Go.RowKit

set_option maxRecDepth 100000 in
set_option maxHeartbeats 32000000 in
theorem HistoryUndoes_any (A : Option Addr) (c : Nat) (l : List Ed) (pick : Int) (w : World) (hs : Sv w w.heap.size 17 A c (rowsE l)) (hb : l.length ≤ 1034834473200) (hp : 0 ≤ pick ∧ pick ≤ 255) (hR : RowsIn w) :
    Calls Tryd.prog 6 #[.slice A l.length c, .int .u8 pick] w fun e w' => e = .returned (.bool true) ∧ Ext w w' := by
  have hm := mixed
  obtain ⟨pk, rfl⟩ := Int.eq_ofNat_of_zero_le hp.1
  have HL := Lib.hid hs; have HR := Lib.hid hR
  have hll := hs.len
  rw [rowsE_length] at hll
  have HSN := Lib.hid (sanity_any w hR)
  clear hs hR
  go_enter Tryd.func6, Tryd.ntmps6
  go_upto_region 2 with (go_at_call 8; refine HSN.out.mono ?_; rintro e W1 ⟨rfl, xs⟩)
  have HL := Lib.hid (HL.out.ext xs); have HR := Lib.hid (HR.out.ext xs); have HX := Lib.hid xs
  clear xs HSN
  have HAK := Lib.hid (Active_any A c l W1 HL.out hb HR.out)
  go_upto_region 3 with (go_at_call 21; refine HAK.out.mono ?_; rintro e W2 ⟨a, hac, Aa, ca, rfl, va, xs⟩)
  have HL := Lib.hid (HL.out.ext xs); have HR := Lib.hid (HR.out.ext xs); have HX := Lib.hid (HX.out.trans xs); have HVA := Lib.hid va; have hal := hac.len; have HAC := Lib.hid hac
  clear xs va hac HAK
  by_cases hlong : (30 : Int) < (l.length : Int)
  · go_wp2_with fail
    go_ret
    exact ⟨rfl, HX.out⟩
  have hl30 : l.length ≤ 30 := by omega
  by_cases hz : a.length = 0
  · have hz0 : ((a.length : Int) == 0) = true := by rw [hz]; rfl
    go_wp2_with fail
    go_ret
    exact ⟨rfl, HX.out⟩
  have hz0 : ((a.length : Int) == 0) = false := by rw [beq_eq_false_iff_ne]; omega
  have hpos : 0 < a.length := by omega
  have hjl := Nat.mod_lt pk hpos
  obtain ⟨x, hxj⟩ : ∃ x, a[pk % a.length]? = some x := ⟨_, List.getElem?_eq_getElem hjl⟩
  have HXA := Lib.hid (List.mem_of_getElem? hxj)
  obtain ⟨bq, oq, rfl, hbl, hra⟩ := ed_row HVA.out hxj
  have HRA := Lib.hid hra
  have e1 : IntKind.i64.wrap (pk : Int) = pk := by rw [IntKind.wrap_i64]; omega
  have e2 : Int.tmod (pk : Int) (a.length : Int) = ((pk % a.length : Nat) : Int) := by rw [Int.tmod_eq_emod_of_nonneg (by omega)]; rfl
  generalize pk % a.length = j at e2 hjl hxj HRA
  clear hra hxj
  have hj0 : 0 ≤ (j : Int) := by omega
  have hj1 : ¬ ((a.length : Int) ≤ (j : Int)) := by omega
  generalize hpk : (pk : Int) = pki at e1 e2
  have hLN := Lib.hid hl30
  go_upto_region 6 with (first
    | (with_reducible refine wpList_load_mid rfl 32 (.tmp 42) rfl bq (oq + j * 17) rfl x.cells _ HRA.out Tryd.underlying32 rfl (by kernel_rfl) ?_)
    | (refine wpList_store_blk 32 (.tmp 7) (.tmp 43) rfl rfl (Arr.new W2 32 [.int .i64 0, .int .i64 0, .int .i64 0, .int .i64 0, .int .i64 0, .int .i64 0, .int .i64 0, .int .i64 0, .int .i64 0, .int .i64 0, .int .i64 0, .int .i64 0, .int .i64 0, .int .i64 0, .int .i64 0, .int .i64 0, .int .i64 0]) x.cells rfl rfl (by kernel_rfl) rfl rfl ?_))
  have HXn := Lib.hid (((Ext.refl W2).alloc (.cells ([.int .i64 0, .int .i64 0, .int .i64 0, .int .i64 0, .int .i64 0, .int .i64 0, .int .i64 0, .int .i64 0, .int .i64 0, .int .i64 0, .int .i64 0, .int .i64 0, .int .i64 0, .int .i64 0, .int .i64 0, .int .i64 0, .int .i64 0] : List Value).toArray 32)).setRow (g := W2.heap.size) (Nat.le_refl _) (x.cells : List Value).toArray)
  have HB := Lib.hid ((Arr.new W2 32 [.int .i64 0, .int .i64 0, .int .i64 0, .int .i64 0, .int .i64 0, .int .i64 0, .int .i64 0, .int .i64 0, .int .i64 0, .int .i64 0, .int .i64 0, .int .i64 0, .int .i64 0, .int .i64 0, .int .i64 0, .int .i64 0, .int .i64 0]).setRow x.cells)
  obtain ⟨W3, hW⟩ : ∃ W, W = (W2.alloc (.cells ([.int .i64 0, .int .i64 0, .int .i64 0, .int .i64 0, .int .i64 0, .int .i64 0, .int .i64 0, .int .i64 0, .int .i64 0, .int .i64 0, .int .i64 0, .int .i64 0, .int .i64 0, .int .i64 0, .int .i64 0, .int .i64 0, .int .i64 0] : List Value).toArray 32)).setRow W2.heap.size (x.cells : List Value).toArray := ⟨_, rfl⟩
  obtain ⟨bx, hbx⟩ : ∃ b, b = W2.heap.size := ⟨_, rfl⟩
  rw [← hW] at HXn HB
  rw [← hW]
  clear hW
  rw [← hbx] at HB
  rw [← hbx]
  clear hbx
  have HL := Lib.hid (HL.out.ext HXn.out); have HR := Lib.hid (HR.out.ext HXn.out); have HX := Lib.hid (HX.out.trans HXn.out); have HVA := Lib.hid (HVA.out.ext HXn.out)
  clear HXn HRA hbl e1 e2 hj0 hj1 hjl
  go_upto_region 8 with fail
  go_loopw [8, 9] (fun lv iv wr => ∃ k : Nat, iv = .int .i64 k ∧ k ≤ l.length ∧ lv = .int .i64 (lastE x.st.site (l.take k)) ∧ Ext W3 wr) (fun _ iv _ => l.length - (intOf iv).toNat)
  case atStart => exact ⟨0, rfl, Nat.zero_le _, rfl, Ext.refl _⟩
  case round =>
    obtain ⟨k, rfl, hk, rfl, hx⟩ := hrel
    have HXR := Lib.hid hx
    by_cases hlt : k < l.length
    · obtain ⟨y, hyk⟩ : ∃ y, l[k]? = some y := ⟨_, List.getElem?_eq_getElem hlt⟩
      obtain ⟨bl, ol, rfl, hbl, hra⟩ := ed_row (HL.out.ext hx) hyk
      have r2 := hra 2 _ rfl
      have r3 := hra 3 _ rfl
      have HRX := Lib.hid hra
      have dx := (HB.out.ext hx).cell 2
      have dxl := (HB.out.ext hx).lt
      simp only [Ed.cells, List.getElem?_cons_zero, List.getElem?_cons_succ] at dx
      have HST := Lib.hid (lastE_step (s := x.st.site) hyk)
      have hk1 : ¬ ((l.length : Int) ≤ (k : Int)) := by omega
      have hG := near_old
      clear hyk hx hra
      generalize lastE x.st.site (l.take k) = ls at HST
      by_cases hst : y.st.site = x.st.site
      · have hnb : (y.st.site == x.st.site) = true := by simpa using hst
        have HSE := Lib.hid hst
        clear hst
        go_upto_region 10 with fail
        refine wp_region_near (by assumption) (by kernel_rfl) ?_
        repeat (go_big_quiet_step (fail))
        refine wpQuiet_nil ?_
        intro w1 hw1
        have hy := Ext.of_near hw1
        clear hw1
        have r3 := (HRX.out : wr.rangeAt bl (ol + k * 17) y.cells) 3 _ rfl
        have r3 := hy.cell hbl |>.trans r3
        go_wp2_with fail
        go_roundw
        case rel => exact ⟨k + 1, by go_num, by omega, by rw [HST.out]; unfold lastS; rw [if_pos HSE.out], HXR.out.trans hy⟩
        case measure => simp [intOf]; omega
      · have hnb : (y.st.site == x.st.site) = false := by simpa using hst
        have HSE := Lib.hid hst
        clear hst
        go_upto_region 10 with fail
        refine wp_region_near (by assumption) (by kernel_rfl) ?_
        repeat (go_big_quiet_step (fail))
        refine wpQuiet_nil ?_
        intro w1 hw1
        have hy := Ext.of_near hw1
        clear hw1
        go_wp2_with fail
        go_roundw
        case rel => exact ⟨k + 1, by go_num, by omega, by rw [HST.out]; unfold lastS; rw [if_neg HSE.out], HXR.out.trans hy⟩
        case measure => simp [intOf]; omega
    · obtain rfl : k = l.length := by omega
      rw [List.take_length]
      have HL := Lib.hid (HL.out.ext hx); have HR := Lib.hid (HR.out.ext hx); have HX := Lib.hid (HX.out.trans hx); have HVA := Lib.hid (HVA.out.ext hx); have HB := Lib.hid (HB.out.ext hx)
      clear hx HXR
      have HLS := Lib.hid (fun h => newU_undo HAC.out HXA.out (x := x) h)
      have HLB := Lib.hid (fun h => newU_back HAC.out HXA.out (x := x) h)
      have hls0 := lastE_nonneg x.st.site l
      generalize lastE x.st.site l = ls at HLS HLB hls0
      by_cases h990 : 990 < ls
      · go_wp2_with fail
        go_ret
        exact ⟨rfl, HX.out⟩
      have h990' : ls ≤ 990 := by omega
      have HNU := Lib.hid (HLS.out h990'); have HFV := Lib.hid (HLB.out h990')
      clear HLS HLB
      have hw1 : IntKind.i64.wrap (ls + 1) = ls + 1 := by rw [IntKind.wrap_i64]; omega
      have hw2 : IntKind.i64.wrap (ls + 2) = ls + 2 := by rw [IntKind.wrap_i64]; omega
      go_upto_region 14 with fail
      have dx2 := HB.out.cell 2; have dx3 := HB.out.cell 3; have dxl := HB.out.lt
      simp only [Ed.cells, List.getElem?_cons_zero, List.getElem?_cons_succ] at dx2 dx3
      go_upto_region 15 with (refine wpList_store_blk 32 (.tmp 10) (.tmp 80) rfl rfl (Arr.new wr 32 [.int .i64 0, .int .i64 0, .int .i64 0, .int .i64 0, .int .i64 0, .int .i64 0, .int .i64 0, .int .i64 0, .int .i64 0, .int .i64 0, .int .i64 0, .int .i64 0, .int .i64 0, .int .i64 0, .int .i64 0, .int .i64 0, .int .i64 0]) (newU x.st.site (ls + 1) x.st.seq).cells rfl rfl (by kernel_rfl) rfl rfl ?_)
      clear dx2 dx3 dxl
      have HXn := Lib.hid (((Ext.refl wr).alloc (.cells ([.int .i64 0, .int .i64 0, .int .i64 0, .int .i64 0, .int .i64 0, .int .i64 0, .int .i64 0, .int .i64 0, .int .i64 0, .int .i64 0, .int .i64 0, .int .i64 0, .int .i64 0, .int .i64 0, .int .i64 0, .int .i64 0, .int .i64 0] : List Value).toArray 32)).setRow (g := wr.heap.size) (Nat.le_refl _) ((newU x.st.site (ls + 1) x.st.seq).cells : List Value).toArray)
      have HU := Lib.hid ((Arr.new wr 32 [.int .i64 0, .int .i64 0, .int .i64 0, .int .i64 0, .int .i64 0, .int .i64 0, .int .i64 0, .int .i64 0, .int .i64 0, .int .i64 0, .int .i64 0, .int .i64 0, .int .i64 0, .int .i64 0, .int .i64 0, .int .i64 0, .int .i64 0]).setRow (newU x.st.site (ls + 1) x.st.seq).cells)
      obtain ⟨W4, hW⟩ : ∃ W, W = (wr.alloc (.cells ([.int .i64 0, .int .i64 0, .int .i64 0, .int .i64 0, .int .i64 0, .int .i64 0, .int .i64 0, .int .i64 0, .int .i64 0, .int .i64 0, .int .i64 0, .int .i64 0, .int .i64 0, .int .i64 0, .int .i64 0, .int .i64 0, .int .i64 0] : List Value).toArray 32)).setRow wr.heap.size ((newU x.st.site (ls + 1) x.st.seq).cells : List Value).toArray := ⟨_, rfl⟩
      obtain ⟨bu, hbx⟩ : ∃ b, b = wr.heap.size := ⟨_, rfl⟩
      rw [← hW] at HXn HU
      rw [← hW]
      clear hW
      rw [← hbx] at HU
      rw [← hbx]
      clear hbx
      have HL := Lib.hid (HL.out.ext HXn.out)
      have HR := Lib.hid (HR.out.ext HXn.out)
      have HVA := Lib.hid (HVA.out.ext HXn.out)
      have HB := Lib.hid (HB.out.ext HXn.out)
      have HX := Lib.hid (HX.out.trans HXn.out)
      clear HXn
      have dx2 := HB.out.cell 2; have dx3 := HB.out.cell 3; have dxl := HB.out.lt
      simp only [Ed.cells, List.getElem?_cons_zero, List.getElem?_cons_succ] at dx2 dx3
      go_upto_region 16 with (refine wpList_store_blk 32 (.tmp 11) (.tmp 89) rfl rfl (Arr.new W4 32 [.int .i64 0, .int .i64 0, .int .i64 0, .int .i64 0, .int .i64 0, .int .i64 0, .int .i64 0, .int .i64 0, .int .i64 0, .int .i64 0, .int .i64 0, .int .i64 0, .int .i64 0, .int .i64 0, .int .i64 0, .int .i64 0, .int .i64 0]) (newU x.st.site (ls + 2) (ls + 1)).cells rfl rfl (by kernel_rfl) rfl rfl ?_)
      clear dx2 dx3 dxl
      have HXn := Lib.hid (((Ext.refl W4).alloc (.cells ([.int .i64 0, .int .i64 0, .int .i64 0, .int .i64 0, .int .i64 0, .int .i64 0, .int .i64 0, .int .i64 0, .int .i64 0, .int .i64 0, .int .i64 0, .int .i64 0, .int .i64 0, .int .i64 0, .int .i64 0, .int .i64 0, .int .i64 0] : List Value).toArray 32)).setRow (g := W4.heap.size) (Nat.le_refl _) ((newU x.st.site (ls + 2) (ls + 1)).cells : List Value).toArray)
      have HV := Lib.hid ((Arr.new W4 32 [.int .i64 0, .int .i64 0, .int .i64 0, .int .i64 0, .int .i64 0, .int .i64 0, .int .i64 0, .int .i64 0, .int .i64 0, .int .i64 0, .int .i64 0, .int .i64 0, .int .i64 0, .int .i64 0, .int .i64 0, .int .i64 0, .int .i64 0]).setRow (newU x.st.site (ls + 2) (ls + 1)).cells)
      obtain ⟨W5, hW⟩ : ∃ W, W = (W4.alloc (.cells ([.int .i64 0, .int .i64 0, .int .i64 0, .int .i64 0, .int .i64 0, .int .i64 0, .int .i64 0, .int .i64 0, .int .i64 0, .int .i64 0, .int .i64 0, .int .i64 0, .int .i64 0, .int .i64 0, .int .i64 0, .int .i64 0, .int .i64 0] : List Value).toArray 32)).setRow W4.heap.size ((newU x.st.site (ls + 2) (ls + 1)).cells : List Value).toArray := ⟨_, rfl⟩
      obtain ⟨bv, hbx⟩ : ∃ b, b = W4.heap.size := ⟨_, rfl⟩
      rw [← hW] at HXn HV
      rw [← hW]
      clear hW
      rw [← hbx] at HV
      rw [← hbx]
      clear hbx
      have HL := Lib.hid (HL.out.ext HXn.out)
      have HR := Lib.hid (HR.out.ext HXn.out)
      have HVA := Lib.hid (HVA.out.ext HXn.out)
      have HB := Lib.hid (HB.out.ext HXn.out)
      have HU := Lib.hid (HU.out.ext HXn.out)
      have HX := Lib.hid (HX.out.trans HXn.out)
      clear HXn
      --STOP1
      have HR5 := Lib.hid HR.out; have HB5 := Lib.hid HB.out; have HVA5 := Lib.hid HVA.out; have HXw5 := Lib.hid HX.out
      have HSV := Lib.hid (show (newU x.st.site (ls + 2) (ls + 1)).kind = 6 ∧ (newU x.st.site (ls + 2) (ls + 1)).st.site = x.st.site ∧ (newU x.st.site (ls + 2) (ls + 1)).size = (newU x.st.site (ls + 1) x.st.seq).st.seq ∧ (newU x.st.site (ls + 2) (ls + 1)).st.seq = (newU x.st.site (ls + 1) x.st.seq).st.seq + 1 from ⟨rfl, rfl, rfl, by show ls + 2 = ls + 1 + 1; omega⟩)
      generalize newU x.st.site (ls + 1) x.st.seq = u at HNU HU HSV
      generalize newU x.st.site (ls + 2) (ls + 1) = ve at HFV HV HSV
      have HU5 := Lib.hid HU.out; have HV5 := Lib.hid HV.out
      go_upto_region 16 with fail
      refine wp_region_fin (w := W5) 5 (fun d i v w' => match i with
          | 0 => ∃ b, v = .slice (some ⟨b, 0, none⟩) 0 0 ∧ (d = false → w'.ownsRow W5.heap.size 32 17 v (0) (rowsE []).flatten)
          | 1 => v = .slice A l.length c
          | 2 => ∃ A' c', v = .slice A' l.length c' ∧ (d = false → w'.ownsRow W5.heap.size 32 17 v (l.length) (rowsE l).flatten)
          | 3 => v = .agg u.cells.toArray
          | 4 => ∃ b, v = .slice (some ⟨b, 0, none⟩) 1 1 ∧ (d = false → Sv w' w'.heap.size 17 (some ⟨b, 0, none⟩) 1 (rowsE [u]))
          | 5 => d = true ∧ ∃ A' c', v = .slice A' (l.length + 1) c' ∧ w'.ownsRow W5.heap.size 32 17 v (l.length + 1) (rowsE (l ++ [u])).flatten
          | 6 => d = true ∧ ∃ A' c', v = .slice A' (l.length + 1) c' ∧ w'.ownsRow W5.heap.size 32 17 v (l.length + 1) (rowsE (l ++ [u])).flatten
          | _ => True) 2 92 (fun _ _ => True) hm (by kernel_rfl) (by kernel_rfl) rfl (by decide) rfl ⟨_, rfl, by kernel_rfl⟩ ?_ ?_ ?_ ?_ ?_
      · intro d i v w1 w2 hx h
        match i, h with
        | 0, h => exact (by obtain ⟨b, k1, k2⟩ := h; exact ⟨b, k1, fun e => own_ext (k2 e) hx⟩)
        | 1, h => exact h
        | 2, h => exact (by obtain ⟨A', c', k1, k2⟩ := h; exact ⟨A', c', k1, fun e => own_ext (k2 e) hx⟩)
        | 3, h => exact h
        | 4, h => exact (by obtain ⟨b, k1, k2⟩ := h; exact ⟨b, k1, fun e => (k2 e).ext hx⟩)
        | 5, h => exact (by obtain ⟨k0, A', c', k1, k2⟩ := h; exact ⟨k0, A', c', k1, own_ext k2 hx⟩)
        | 6, h => exact (by obtain ⟨k0, A', c', k1, k2⟩ := h; exact ⟨k0, A', c', k1, own_ext k2 hx⟩)
        | i + 7, h => exact trivial
      · intro i v w1 w2 h
        match i, h with
        | 0, h => exact (by obtain ⟨b, k1, _⟩ := h; exact ⟨b, k1, fun e => by cases e⟩)
        | 1, h => exact h
        | 2, h => exact (by obtain ⟨A', c', k1, _⟩ := h; exact ⟨A', c', k1, fun e => by cases e⟩)
        | 3, h => exact h
        | 4, h => exact (by obtain ⟨b, k1, _⟩ := h; exact ⟨b, k1, fun e => by cases e⟩)
        | 5, h => exact absurd h.1 (by simp)
        | 6, h => exact absurd h.1 (by simp)
        | i + 7, h => exact trivial
      · intro v w1 w2 hx h; exact trivial
      · intro i o ho d b w1 hJd hN hx hmiss hdep K hK
        match i, ho with
        | 0, ho =>
          obtain rfl := Option.some.inj ho
          refine want_none rfl ?_
          exact op_run (v := .slice (some ⟨w1.heap.size, 0, none⟩) 0 0) (w2 := w1.alloc (.cells #[] 32)) (by unfold execOp; simp [go_sem]) (hK _ _ (hx.alloc _) (fun _ => (Ext.refl _).alloc _) (fun e => absurd e (by decide)) ⟨_, rfl, fun _ => own_lower hx.size (own_zero w1 _ 17)⟩)
        | 1, ho =>
          obtain rfl := Option.some.inj ho
          refine want_none rfl ?_
          have e0 : b.tmps[0]? = some (.slice A l.length c) := hmiss 0 rfl
          exact op_move rfl (eval_of e0) (hK _ w1 hx (fun _ => Ext.refl _) (fun e => absurd e (by decide)) rfl)
        | 2, ho =>
          obtain rfl := Option.some.inj ho
          refine want_none rfl ?_
          obtain rfl : d = false := hN (by kernel_rfl)
          obtain ⟨v1, ⟨b, k1, k2⟩, e1⟩ := hdep 0 rfl
          subst k1
          have e1 := e1 90 rfl
          obtain ⟨v91, g91, e91⟩ := hdep 1 rfl
          have g91 : v91 = .slice A l.length c := g91
          subst g91
          have e91 := e91 91 rfl
          obtain ⟨i0, hi, hz0, hz1, hz2⟩ := info_parts infoEd
          refine op_append_zero (.tmp 90) (.tmp 91) 22 rfl W5.heap.size 32 i0 _ 17 136 Tryd.underlying22 hi hz0 hz1 hz2 rfl (by decide) b (eval_of e1) (k2 rfl) _ _ l.length c (rowsE l) (eval_of e91) (HL.out.ext hx) (rowsE_length _) (by have := hLN.out; unfold maxLen; omega) (by have := hLN.out; omega) hx.size (fun v' w' ho he => ?_)
          have ho' := ho
          obtain ⟨A', c', e, _⟩ := own_form ho'
          subst e
          exact hK _ w' (hx.trans he) (fun _ => he) (fun e => absurd e (by decide)) ⟨A', c', rfl, fun _ => ho⟩
        | 3, ho =>
          obtain rfl := Option.some.inj ho
          refine want_none rfl ?_
          have e10 : b.tmps[10]? = some (.pointer (some ⟨bu, 0, none⟩)) := hmiss 10 rfl
          exact op_loadrow rfl (eval_of e10) (HU.out.ext hx) _ Tryd.underlying32 rfl (by kernel_rfl) (hK _ w1 hx (fun _ => Ext.refl _) (fun e => absurd e (by decide)) rfl)
        | 4, ho =>
          obtain rfl := Option.some.inj ho
          refine want_none rfl ?_
          obtain ⟨v93, g93, e93⟩ := hdep 3 rfl
          have g93 : v93 = .agg u.cells.toArray := g93
          subst g93
          have e93 := e93 93 rfl
          exact op_buildRow 22 32 93 rfl 17 (by decide) (by decide) u.cells rfl (eval_of e93) Tryd.underlying22 (by kernel_rfl) (by kernel_rfl) (hK _ _ (hx.alloc _) (fun _ => (Ext.refl _).alloc _) (fun e => absurd e (by decide)) ⟨_, rfl, fun _ => svE_lit w1 [u] (by simp)⟩)
        | 5, ho =>
          obtain rfl := Option.some.inj ho
          refine want_none rfl ?_
          obtain rfl : d = false := hJd rfl
          obtain ⟨v1, ⟨A1, c1, k1, k2⟩, e1⟩ := hdep 2 rfl
          subst k1
          have e1 := e1 92 rfl
          have k2 := k2 rfl
          obtain ⟨v2, ⟨b, k3, k4⟩, e2⟩ := hdep 4 rfl
          subst k3
          have e2 := e2 94 rfl
          have k4 := k4 rfl
          obtain ⟨i0, hi, hz0, hz1, hz2⟩ := info_parts infoEd
          refine op_append_sv (.tmp 92) (.tmp 94) 22 rfl W5.heap.size 32 i0 _ 17 136 Tryd.underlying22 hi hz0 hz1 hz2 rfl (by decide) _ l.length _ (eval_of e1) k2 _ _ 1 1 (rowsE [u]) (eval_of e2) k4 rfl (by have := hLN.out; unfold maxLen; omega) (by have := hLN.out; omega) hx.size (fun v' w' ho hg => ?_)
          have ho : w'.ownsRow W5.heap.size 32 17 v' (l.length + 1) (rowsE (l ++ [u])).flatten := by rw [rowsE_append, List.flatten_append]; exact ho
          obtain ⟨A', c', e, _⟩ := own_form ho
          subst e
          exact hK _ w' (hx.own k2 hg (Nat.le_refl _)) (fun e => absurd rfl e) (fun _ _ _ => trivial) ⟨rfl, A', c', rfl, ho⟩
        | 6, ho =>
          obtain rfl := Option.some.inj ho
          refine want_none rfl ?_
          obtain ⟨v1, g1, e1⟩ := hdep 5 rfl
          have e1 := e1 95 rfl
          exact op_assign rfl (eval_of e1) (hK _ w1 hx (fun _ => Ext.refl _) (fun e => absurd e (by decide)) g1)
        | i + 7, ho => cases ho
      · intro V W6 hx hg _
        obtain ⟨_, AM, cM, q0, so⟩ := hg 6 (by decide)
        rw [q0] at so
        have HO := Lib.hid so
        simp only [List.length_cons, List.length_nil, fillAllN, dstOf, Act.put, List.getElem?_toArray, List.getElem?_cons_zero, List.getElem?_cons_succ, Option.bind_some, List.setIfInBounds_toArray, List.set_cons_zero, List.set_cons_succ, q0]
        clear hg q0 so
        have HM := Lib.hid (own_sv_E HO.out (by simp))
        have HL := Lib.hid (HL.out.ext hx); have HR := Lib.hid (HR.out.ext hx); have HB := Lib.hid (HB.out.ext hx); have HU := Lib.hid (HU.out.ext hx); have HV := Lib.hid (HV.out.ext hx); have HVA := Lib.hid (HVA.out.ext hx); have HX := Lib.hid (HX.out.trans hx)
        have HX56 := Lib.hid hx
        clear hx
        have hml : (l ++ [u]).length = l.length + 1 := by simp
        have HMN := Lib.hid hml
        generalize hmo : l ++ [u] = mo at HM hml HMN HO
        rw [← hml]
        rw [← hml] at HO
        clear hml
        have HMO := Lib.hid hmo
        clear hmo
        have K2 := Lib.hid (Active_any AM cM mo W6 HM.out (by have := HMN.out; omega) HR.out)
        go_upto_region 18 with (go_at_call 21; ((with_reducible refine K2.out.mono ?_); rintro e W7 ⟨be, hbc, A6, c6, rfl, v2, xb⟩))
        have HBC := Lib.hid (HMO.out ▸ hbc); have HVB := Lib.hid v2; have hbl := hbc.len
        have HX57 := Lib.hid (HX56.out.trans xb); have HO := Lib.hid (own_ext HO.out xb)
        have HL := Lib.hid (HL.out.ext xb); have HM := Lib.hid (HM.out.ext xb); have HR := Lib.hid (HR.out.ext xb); have HB := Lib.hid (HB.out.ext xb); have HU := Lib.hid (HU.out.ext xb); have HV := Lib.hid (HV.out.ext xb); have HVA := Lib.hid (HVA.out.ext xb); have HX := Lib.hid (HX.out.trans xb)
        clear hbc v2 xb HX56 K2
        have hbl2 : be.length ≤ 31 := by have := HMN.out; omega
        clear hbl
        go_upto_region 19 with fail
        --STOP2
        go_loopw [14] (fun iv wr => ∃ k : Nat, iv = .int .i64 k ∧ k ≤ l.length ∧ Ext W7 wr) (fun iv _ => l.length - (intOf iv).toNat)
        case atStart => exact ⟨0, rfl, Nat.zero_le _, Ext.refl _⟩
        case round =>
          obtain ⟨k, rfl, hk, hx⟩ := hrel
          have HXR := Lib.hid hx
          clear hx
          by_cases hlt : k < l.length
          · obtain ⟨y, hyk⟩ : ∃ y, l[k]? = some y := ⟨_, List.getElem?_eq_getElem hlt⟩
            obtain ⟨bl, ol, rfl, hbl, hra⟩ := ed_row (HL.out.ext HXR.out) hyk
            have HRX := Lib.hid (fun w2 (h : Ext wr w2) => rangeAt_ext hra hbl h)
            have hk0 : 0 ≤ (k : Int) := by omega
            have hk1 : ¬ ((l.length : Int) ≤ (k : Int)) := by omega
            clear hra hyk
            obtain ⟨ba, hba⟩ : ∃ ba, decide (y ∈ a) = ba := ⟨_, rfl⟩
            obtain ⟨bf, hbf⟩ : ∃ bf, decide (y ∈ be) = bf := ⟨_, rfl⟩
            obtain ⟨ht, hht⟩ : ∃ ht, decide (y = x) = ht := ⟨_, rfl⟩
            have HF1 := Lib.hid (show ht = true → bf = false by
              intro h
              rw [← hht, decide_eq_true_eq] at h
              rw [← hbf, h, decide_eq_false_iff_not]
              exact undo_hit HNU.out HBC.out)
            have HF2 := Lib.hid (show ba = true → x.kind ≠ 6 → bf = !ht by
              intro h hk
              rw [← hba, decide_eq_true_eq] at h
              rw [← hbf, ← hht]
              exact undo_others HAC.out HNU.out HBC.out h hk)
            have HBA := Lib.hid hba; have HBF := Lib.hid hbf; have HHT := Lib.hid hht
            clear hba hbf hht
            have KA := Lib.hid ((has_any (some ⟨bq, oq, none⟩) ca a y wr (HVA.out.ext HXR.out) (by omega)).mono (R' := fun e w' => e = .returned (.bool ba) ∧ Ext wr w') fun e w' ⟨h1, h2⟩ => ⟨by rw [h1, HBA.out], h2⟩)
            go_upto_region 22 with (first
              | (with_reducible refine wpList_load_mid rfl 32 (.tmp 107) rfl bl (ol + k * 17) rfl y.cells _ (HRX.out _ (Ext.refl _)) Tryd.underlying32 rfl (by kernel_rfl) ?_)
              | (go_at_call 26; refine KA.out.mono ?_; rintro e wa ⟨rfl, xa⟩))
            have KB := Lib.hid ((has_any A6 c6 be y wa ((HVB.out.ext HXR.out).ext xa) (by omega)).mono (R' := fun e w' => e = .returned (.bool bf) ∧ Ext wa w') fun e w' ⟨h1, h2⟩ => ⟨by rw [h1, HBF.out], h2⟩)
            go_upto_region 23 with (first
              | (with_reducible refine wpList_load_mid rfl 32 (.tmp 113) rfl bl (ol + k * 17) rfl y.cells _ (HRX.out _ xa) Tryd.underlying32 rfl (by kernel_rfl) ?_)
              | (go_at_call 26; refine KB.out.mono ?_; rintro e wb ⟨rfl, xb⟩))
            have HXab := Lib.hid (xa.trans xb)
            have HBb := Lib.hid (HB.out.ext (HXR.out.trans HXab.out))
            clear xa xb KA KB
            have hn := eqEd_run y x
            rw [HHT.out] at hn
            refine wp_region_rel (fun i v w' => match i with
                | 0 => v = .slice (some ⟨bl, ol, none⟩) l.length c
                | 1 => v = .int .i64 (k : Int)
                | 2 => v = .pointer (some ⟨bl, ol + k * 17, none⟩)
                | 3 => v = .agg y.cells.toArray
                | 4 => v = .agg x.cells.toArray
                | 5 => v = .bool ht
                | 6 => v = .bool ht
                | _ => True) hm (by kernel_rfl) (by kernel_rfl) rfl ?_ ?_ ?_
            · intro i v w1 w2 hx h
              match i, h with
              | 0, h => exact h
              | 1, h => exact h
              | 2, h => exact h
              | 3, h => exact h
              | 4, h => exact h
              | 5, h => exact h
              | 6, h => exact h
              | i + 7, h => exact h
            · intro i o ho b w1 hx hmiss hdep K hK
              match i, ho with
              | 0, ho =>
                obtain rfl := Option.some.inj ho
                have e0 : b.tmps[0]? = some (.slice (some ⟨bl, ol, none⟩) l.length c) := hmiss 0 rfl
                refine want_none rfl ?_
                exact op_move rfl (eval_of e0) (hK _ w1 (Ext.refl _) rfl)
              | 1, ho =>
                obtain rfl := Option.some.inj ho
                have e14 : b.tmps[14]? = some (.int .i64 (k : Int)) := hmiss 14 rfl
                refine want_none rfl ?_
                exact op_move rfl (eval_of e14) (hK _ w1 (Ext.refl _) rfl)
              | 2, ho =>
                obtain rfl := Option.some.inj ho
                obtain ⟨v116, g116, e116⟩ := hdep 0 rfl
                have g116 : v116 = .slice (some ⟨bl, ol, none⟩) l.length c := g116
                subst g116
                have e116 := e116 116 rfl
                obtain ⟨v117, g117, e117⟩ := hdep 1 rfl
                have g117 : v117 = .int .i64 (k : Int) := g117
                subst g117
                have e117 := e117 117 rfl
                refine want_none rfl ?_
                exact op_run (by unfold execOp; simp [e116, e117, Act.eval, go_sem, hk0, hk1]) (hK _ w1 (Ext.refl _) rfl)
              | 3, ho =>
                obtain rfl := Option.some.inj ho
                obtain ⟨v118, g118, e118⟩ := hdep 2 rfl
                have g118 : v118 = .pointer (some ⟨bl, ol + k * 17, none⟩) := g118
                subst g118
                have e118 := e118 118 rfl
                refine want_none rfl ?_
                exact wp_load_mid 32 (.tmp 118) rfl (bl) (ol + k * 17) (eval_of e118) (y.cells) _ (HRX.out _ (HXab.out.trans hx)) Tryd.underlying32 rfl (by kernel_rfl) (hK _ w1 (Ext.refl _) rfl)
              | 4, ho =>
                obtain rfl := Option.some.inj ho
                have e7 : b.tmps[7]? = some (.pointer (some ⟨bx, 0, none⟩)) := hmiss 7 rfl
                refine want_none rfl ?_
                exact op_loadrow rfl (eval_of e7) (HBb.out.ext hx) _ Tryd.underlying32 rfl (by kernel_rfl) (hK _ w1 (Ext.refl _) rfl)
              | 5, ho =>
                obtain rfl := Option.some.inj ho
                obtain ⟨v119, g119, e119⟩ := hdep 3 rfl
                have g119 : v119 = .agg y.cells.toArray := g119
                subst g119
                have e119 := e119 119 rfl
                obtain ⟨v120, g120, e120⟩ := hdep 4 rfl
                have g120 : v120 = .agg x.cells.toArray := g120
                subst g120
                have e120 := e120 120 rfl
                refine want_none rfl ?_
                exact op_run (by unfold execOp; simp [e119, e120, Act.eval, go_sem, hn]) (hK _ w1 (Ext.refl _) rfl)
              | 6, ho =>
                obtain rfl := Option.some.inj ho
                obtain ⟨v121, g121, e121⟩ := hdep 5 rfl
                have g121 : v121 = .bool ht := g121
                subst g121
                have e121 := e121 121 rfl
                refine want_none rfl ?_
                exact op_assign rfl (eval_of e121) (hK _ w1 (Ext.refl _) rfl)
              | i + 7, ho => cases ho
            · intro V w9 hx hg
              have g0 : V 0 = .slice (some ⟨bl, ol, none⟩) l.length c := hg 0 (by decide)
              have g1 : V 1 = .int .i64 (k : Int) := hg 1 (by decide)
              have g2 : V 2 = .pointer (some ⟨bl, ol + k * 17, none⟩) := hg 2 (by decide)
              have g3 : V 3 = .agg y.cells.toArray := hg 3 (by decide)
              have g4 : V 4 = .agg x.cells.toArray := hg 4 (by decide)
              have g5 : V 5 = .bool ht := hg 5 (by decide)
              have g6 : V 6 = .bool ht := hg 6 (by decide)
              simp only [List.length_cons, List.length_nil, fillAllN, dstOf, Act.put, List.getElem?_toArray, List.getElem?_cons_zero, List.getElem?_cons_succ, Option.bind_some, g0, g1, g2, g3, g4, g5, g6, List.setIfInBounds_toArray, List.set_cons_zero, List.set_cons_succ]
              clear g0 g1 g2 g3 g4 g5 g6 hg
              have HXr9 := Lib.hid (HXR.out.trans (HXab.out.trans hx))
              have dyk : w9.cell? ⟨bl, ol + k * 17 + 4, none⟩ = some (.int .i64 y.kind) := (HRX.out w9 (HXab.out.trans hx)) 4 _ rfl
              have dxk : w9.cell? ⟨bx, 4, none⟩ = some (.int .i64 x.kind) := (HBb.out.ext hx).cell 4
              have dyb := Nat.lt_of_lt_of_le hbl (HXab.out.trans hx).size
              have dxb := (HBb.out.ext hx).lt
              clear hx hn HBb HXab
              --STOP3
              cases ht
              · cases ba
                · go_wp2_with fail
                  go_roundw
                  case rel => exact ⟨k + 1, by go_num, by omega, HXr9.out⟩
                  case measure => simp [intOf]; omega
                · by_cases hk6 : y.kind = 6
                  · have hk6b : (y.kind == 6) = true := by simpa using hk6
                    go_wp2_with fail
                    go_roundw
                    case rel => exact ⟨k + 1, by go_num, by omega, HXr9.out⟩
                    case measure => simp [intOf]; omega
                  · have hk6b : (y.kind == 6) = false := by simpa using hk6
                    by_cases hx6 : x.kind = 6
                    · have hx6b : (x.kind == 6) = true := by simpa using hx6
                      go_wp2_with fail
                      go_roundw
                      case rel => exact ⟨k + 1, by go_num, by omega, HXr9.out⟩
                      case measure => simp [intOf]; omega
                    · have hx6b : (x.kind == 6) = false := by simpa using hx6
                      obtain rfl := HF2.out rfl hx6
                      go_wp2_with fail
                      go_roundw
                      case rel => exact ⟨k + 1, by go_num, by omega, HXr9.out⟩
                      case measure => simp [intOf]; omega
              · obtain rfl := HF1.out rfl
                cases ba
                · go_wp2_with fail
                  go_roundw
                  case rel => exact ⟨k + 1, by go_num, by omega, HXr9.out⟩
                  case measure => simp [intOf]; omega
                · by_cases hk6 : y.kind = 6
                  · have hk6b : (y.kind == 6) = true := by simpa using hk6
                    go_wp2_with fail
                    go_roundw
                    case rel => exact ⟨k + 1, by go_num, by omega, HXr9.out⟩
                    case measure => simp [intOf]; omega
                  · have hk6b : (y.kind == 6) = false := by simpa using hk6
                    by_cases hx6 : x.kind = 6
                    · have hx6b : (x.kind == 6) = true := by simpa using hx6
                      go_wp2_with fail
                      go_roundw
                      case rel => exact ⟨k + 1, by go_num, by omega, HXr9.out⟩
                      case measure => simp [intOf]; omega
                    · have hx6b : (x.kind == 6) = false := by simpa using hx6
                      go_wp2_with fail
                      go_roundw
                      case rel => exact ⟨k + 1, by go_num, by omega, HXr9.out⟩
                      case measure => simp [intOf]; omega
          · obtain rfl : k = l.length := by omega
            --STOP4
            have HL := Lib.hid (HL.out.ext HXR.out); have HM := Lib.hid (HM.out.ext HXR.out); have HR := Lib.hid (HR.out.ext HXR.out); have HB := Lib.hid (HB.out.ext HXR.out); have HU := Lib.hid (HU.out.ext HXR.out); have HV := Lib.hid (HV.out.ext HXR.out); have HVA := Lib.hid (HVA.out.ext HXR.out); have HX := Lib.hid (HX.out.trans HXR.out)
            have HX5 := Lib.hid (HX57.out.trans HXR.out)
            have HO := Lib.hid (own_ext HO.out HXR.out)
            clear HVB HXR HX57 HBC
            have HSX := Lib.hid (svE_lit wr [ve] (by simp))
            have HXl := Lib.hid ((Ext.refl wr).alloc (.cells (rowsE [ve]).flatten.toArray 32))
            have HO2 := Lib.hid (own_ext HO.out HXl.out)
            have HX6 := Lib.hid (HX5.out.trans HXl.out)
            have K27 := Lib.hid (fun (A9 : Option Addr) (c9 : Nat) (W9 : World) (ho : W9.ownsRow W5.heap.size 32 17 (.slice A9 (mo.length + 1) c9) (mo.length + 1) (rowsE (mo ++ [ve])).flatten) (hx : Ext W5 W9) => (by
              have h := Active_any A9 c9 (mo ++ [ve]) W9 (own_sv_E ho (by simp)) (by rw [List.length_append, List.length_singleton, HMN.out]; omega) (HR5.out.ext hx)
              have e1 : (mo ++ [ve]).length = mo.length + 1 := by simp
              rw [e1] at h
              exact h : Calls Tryd.prog 21 #[.slice A9 (mo.length + 1) c9] W9 fun e w' => ∃ m, IsAct (mo ++ [ve]) m ∧ RetE m W9 e w'))
            go_upto_region 28 with (first
              | (refine wpList_load_blk 32 (.tmp 11) rfl rfl HV.out rfl _ Tryd.underlying32 rfl (by kernel_rfl) ?_)
              | (refine wpList_buildRow rfl 22 32 150 rfl 17 (by decide) (by decide) ve.cells rfl rfl Tryd.underlying22 (by kernel_rfl) (by kernel_rfl) ?_)
              | (at_builtin; refine wpList_append_keep_E rfl (.tmp 149) (.tmp 151) rfl W5.heap.size AM cM mo mo.length rfl rfl HO2.out _ 1 1 [ve] rfl rfl HSX.out (mo.length + 1) rfl (by have := HMN.out; omega) HX6.out.size ?_; intro A9 c9 W9 ho9 hg9 hsv9; have HO9 := Lib.hid ho9; have HM9 := Lib.hid hsv9; have HX9 := Lib.hid (HX6.out.own HO2.out hg9 (Nat.le_refl _)); clear ho9 hg9 hsv9)
              | (go_at_call 21; (with_reducible refine (K27.out _ _ _ HO9.out HX9.out).mono ?_); rintro e WA ⟨cc, hcc, AC, cC, rfl, vc, xc⟩))
            have HXc := Lib.hid (HX9.out.trans xc)
            have HC := Lib.hid (HMO.out ▸ hcc)
            have HVC := Lib.hid vc; have HM := Lib.hid (HM9.out.ext xc); have hcl := hcc.len
            have HR := Lib.hid (HR5.out.ext HXc.out); have HB := Lib.hid (HB5.out.ext HXc.out); have HU := Lib.hid (HU5.out.ext HXc.out); have HV := Lib.hid (HV5.out.ext HXc.out); have HVA := Lib.hid (HVA5.out.ext HXc.out); have HX := Lib.hid (HXw5.out.trans HXc.out)
            have hcl2 : cc.length ≤ 32 := by rw [List.length_append, List.length_singleton, HMN.out] at hcl; omega
            clear hcc vc xc HXc HX9 HM9 HO9 HX6 HO2 HXl HSX HX5 HO hcl
            obtain ⟨hcn, hc1, hcm⟩ := undo_count HNU.out HFV.out HSV.out.1 HSV.out.2.1 HSV.out.2.2.1 HSV.out.2.2.2 HAC.out HC.out
            have HC1 := Lib.hid hc1; have HCM := Lib.hid hcm; have HCL := Lib.hid hcn
            clear hc1 hcm hcn HC
            obtain ⟨p, hp⟩ : ∃ p : Ed → Bool, p = fun y => decide (y = ve) := ⟨_, rfl⟩
            have HC1 := Lib.hid (show cntB p cc = 1 by rw [hp]; exact HC1.out)
            have HP := Lib.hid (fun y => congrFun hp y)
            clear hp
            go_upto_region 30 with fail
            --STOP5
            go_loopw [20, 21] (fun nv iv wr => ∃ k : Nat, iv = .int .i64 k ∧ k ≤ cc.length ∧ nv = .int .i64 (cntB p (cc.take k) : Nat) ∧ Ext WA wr) (fun _ iv _ => cc.length - (intOf iv).toNat)
            case atStart => exact ⟨0, rfl, Nat.zero_le _, by simp [cntB], Ext.refl _⟩
            case round =>
              obtain ⟨k, rfl, hk, rfl, hx⟩ := hrel
              have HXR := Lib.hid hx
              clear hx
              by_cases hlt : k < cc.length
              · obtain ⟨y, hyk⟩ : ∃ y, cc[k]? = some y := ⟨_, List.getElem?_eq_getElem hlt⟩
                obtain ⟨bl, ol, rfl, hbl, hra⟩ := ed_row (HVC.out.ext HXR.out) hyk
                have HRX := Lib.hid (fun w2 (h : Ext wr w2) => rangeAt_ext hra hbl h)
                have HYC := Lib.hid (List.mem_of_getElem? hyk)
                have HST := Lib.hid (show cntB p (cc.take (k + 1)) = cntB p (cc.take k) + (if p y then 1 else 0) by rw [take_snocR hyk, cntB_snoc])
                have hcl := Nat.le_trans (cntB_le p (cc.take k)) (List.length_take_le k cc)
                have hk0 : 0 ≤ (k : Int) := by omega
                have hk1 : ¬ ((cc.length : Int) ≤ (k : Int)) := by omega
                clear hra hyk
                generalize cntB p (cc.take k) = cn at HST hcl
                have hw1 : IntKind.i64.wrap ((cn : Int) + 1) = (cn : Int) + 1 := by rw [IntKind.wrap_i64]; omega
                obtain ⟨ht, hht⟩ : ∃ ht, decide (y = ve) = ht := ⟨_, rfl⟩
                have HHT := Lib.hid hht
                have hpy : p y = ht := by rw [HP.out, hht]
                rw [hpy] at HST
                clear hht hpy
                have HBb := Lib.hid (HV.out.ext HXR.out)
                have hn := eqEd_run y ve
                rw [HHT.out] at hn
                go_upto_region 32 with fail
                refine wp_region_rel (fun i v w' => match i with
                    | 0 => v = .slice (some ⟨bl, ol, none⟩) cc.length cC
                    | 1 => v = .int .i64 (k : Int)
                    | 2 => v = .pointer (some ⟨bl, ol + k * 17, none⟩)
                    | 3 => v = .agg y.cells.toArray
                    | 4 => v = .agg ve.cells.toArray
                    | 5 => v = .bool ht
                    | _ => True) hm (by kernel_rfl) (by kernel_rfl) rfl ?_ ?_ ?_
                · intro i v w1 w2 hx h
                  match i, h with
                  | 0, h => exact h
                  | 1, h => exact h
                  | 2, h => exact h
                  | 3, h => exact h
                  | 4, h => exact h
                  | 5, h => exact h
                  | i + 6, h => exact h
                · intro i o ho b w1 hx hmiss hdep K hK
                  match i, ho with
                  | 0, ho =>
                    obtain rfl := Option.some.inj ho
                    have e19 : b.tmps[19]? = some (.slice (some ⟨bl, ol, none⟩) cc.length cC) := hmiss 19 rfl
                    refine want_none rfl ?_
                    exact op_move rfl (eval_of e19) (hK _ w1 (Ext.refl _) rfl)
                  | 1, ho =>
                    obtain rfl := Option.some.inj ho
                    have e21 : b.tmps[21]? = some (.int .i64 (k : Int)) := hmiss 21 rfl
                    refine want_none rfl ?_
                    exact op_move rfl (eval_of e21) (hK _ w1 (Ext.refl _) rfl)
                  | 2, ho =>
                    obtain rfl := Option.some.inj ho
                    obtain ⟨v160, g160, e160⟩ := hdep 0 rfl
                    have g160 : v160 = .slice (some ⟨bl, ol, none⟩) cc.length cC := g160
                    subst g160
                    have e160 := e160 160 rfl
                    obtain ⟨v161, g161, e161⟩ := hdep 1 rfl
                    have g161 : v161 = .int .i64 (k : Int) := g161
                    subst g161
                    have e161 := e161 161 rfl
                    refine want_none rfl ?_
                    exact op_run (by unfold execOp; simp [e160, e161, Act.eval, go_sem, hlt, hk0]) (hK _ w1 (Ext.refl _) rfl)
                  | 3, ho =>
                    obtain rfl := Option.some.inj ho
                    obtain ⟨v162, g162, e162⟩ := hdep 2 rfl
                    have g162 : v162 = .pointer (some ⟨bl, ol + k * 17, none⟩) := g162
                    subst g162
                    have e162 := e162 162 rfl
                    refine want_none rfl ?_
                    exact wp_load_mid 32 (.tmp 162) rfl (bl) (ol + k * 17) (eval_of e162) (y.cells) _ (HRX.out _ hx) Tryd.underlying32 rfl (by kernel_rfl) (hK _ w1 (Ext.refl _) rfl)
                  | 4, ho =>
                    obtain rfl := Option.some.inj ho
                    have e11 : b.tmps[11]? = some (.pointer (some ⟨bv, 0, none⟩)) := hmiss 11 rfl
                    refine want_none rfl ?_
                    exact op_loadrow rfl (eval_of e11) (HBb.out.ext hx) _ Tryd.underlying32 rfl (by kernel_rfl) (hK _ w1 (Ext.refl _) rfl)
                  | 5, ho =>
                    obtain rfl := Option.some.inj ho
                    obtain ⟨v163, g163, e163⟩ := hdep 3 rfl
                    have g163 : v163 = .agg y.cells.toArray := g163
                    subst g163
                    have e163 := e163 163 rfl
                    obtain ⟨v164, g164, e164⟩ := hdep 4 rfl
                    have g164 : v164 = .agg ve.cells.toArray := g164
                    subst g164
                    have e164 := e164 164 rfl
                    refine want_none rfl ?_
                    exact op_run (by unfold execOp; simp [e163, e164, Act.eval, go_sem, hn]) (hK _ w1 (Ext.refl _) rfl)
                  | i + 6, ho => cases ho
                · intro V w9 hx hg
                  have g0 : V 0 = .slice (some ⟨bl, ol, none⟩) cc.length cC := hg 0 (by decide)
                  have g1 : V 1 = .int .i64 (k : Int) := hg 1 (by decide)
                  have g2 : V 2 = .pointer (some ⟨bl, ol + k * 17, none⟩) := hg 2 (by decide)
                  have g3 : V 3 = .agg y.cells.toArray := hg 3 (by decide)
                  have g4 : V 4 = .agg ve.cells.toArray := hg 4 (by decide)
                  have g5 : V 5 = .bool ht := hg 5 (by decide)
                  simp only [List.length_cons, List.length_nil, fillAllN, dstOf, Act.put, List.getElem?_toArray, List.getElem?_cons_zero, List.getElem?_cons_succ, Option.bind_some, g0, g1, g2, g3, g4, g5, List.setIfInBounds_toArray, List.set_cons_zero, List.set_cons_succ]
                  clear g0 g1 g2 g3 g4 g5 hg
                  have HXr9 := Lib.hid (HXR.out.trans hx)
                  have HX9 := Lib.hid hx
                  clear hx hn HBb
                  cases ht
                  · have hya : decide (y ∈ a) = true := decide_eq_true (HCM.out y HYC.out (by have h := HHT.out; simpa using h))
                    have HYA := Lib.hid hya
                    clear hya
                    have KA := Lib.hid ((has_any (some ⟨bq, oq, none⟩) ca a y w9 ((HVA.out.ext HXR.out).ext HX9.out) (by omega)).mono (R' := fun e w' => e = .returned (.bool true) ∧ Ext w9 w') fun e w' ⟨h1, h2⟩ => ⟨by rw [h1, HYA.out], h2⟩)
                    have HRY := Lib.hid (HRX.out w9 HX9.out)
                    go_wp2_with (first
                      | (with_reducible refine wpList_load_mid rfl 32 (.tmp 171) rfl bl (ol + k * 17) rfl y.cells _ HRY.out Tryd.underlying32 rfl (by kernel_rfl) ?_)
                      | (go_at_call 26; refine KA.out.mono ?_; rintro e wa ⟨rfl, xa⟩))
                    go_roundw
                    case rel => exact ⟨k + 1, by go_num, by omega, by rw [HST.out]; simp, HXr9.out.trans xa⟩
                    case measure => simp [intOf]; omega
                  · go_wp2_with fail
                    go_roundw
                    case rel => exact ⟨k + 1, by go_num, by omega, by rw [HST.out]; simp, HXr9.out⟩
                    case measure => simp [intOf]; omega
              · obtain rfl : k = cc.length := by omega
                rw [List.take_length, HC1.out]
                have HM := Lib.hid (HM.out.ext HXR.out); have HR := Lib.hid (HR.out.ext HXR.out); have HB := Lib.hid (HB.out.ext HXR.out); have HU := Lib.hid (HU.out.ext HXR.out); have HX := Lib.hid (HX.out.trans HXR.out)
                clear HV HVA HVC HXR HP HC1 HCM
                --STOP6
                have K9 := Lib.hid (fun (W : World) (hx : Ext wr W) => Status_any AM cM mo (nmE x) W (HM.out.ext hx) (by have := HMN.out; omega) (HR.out.ext hx))
                go_upto_region 37 with (first
                  | (refine wpList_load_blk 32 (.tmp 7) rfl rfl HB.out rfl _ Tryd.underlying32 rfl (by kernel_rfl) ?_)
                  | (go_at_call 24; refine (Name_any x wr).mono ?_; rintro e wn ⟨rfl, xn⟩)
                  | (go_at_call 9; refine (K9.out wn xn).mono ?_; rintro e Ws ⟨ks, us, hst, rfl, xs⟩; obtain ⟨rfl, rfl⟩ := undo_stat HNU.out (HMO.out ▸ hst))
                  | (refine wpList_store_blk 24 (.tmp 23) (.tmp 181) rfl rfl (Arr.new Ws 24 [.int .i64 0, .int .i64 0]) [.int .i64 (nmE u).site, .int .i64 (nmE u).seq] rfl rfl (by kernel_rfl) rfl rfl ?_))
                have HXn := Lib.hid ((xn.trans xs).trans (((Ext.refl Ws).alloc (.cells ([.int .i64 0, .int .i64 0] : List Value).toArray 24)).setRow (g := Ws.heap.size) (Nat.le_refl _) ([.int .i64 (nmE u).site, .int .i64 (nmE u).seq] : List Value).toArray))
                have HN := Lib.hid ((Arr.new Ws 24 [.int .i64 0, .int .i64 0]).setRow [.int .i64 (nmE u).site, .int .i64 (nmE u).seq])
                obtain ⟨WB, hW⟩ : ∃ W, W = (Ws.alloc (.cells ([.int .i64 0, .int .i64 0] : List Value).toArray 24)).setRow Ws.heap.size ([.int .i64 (nmE u).site, .int .i64 (nmE u).seq] : List Value).toArray := ⟨_, rfl⟩
                obtain ⟨bn, hbx⟩ : ∃ b, b = Ws.heap.size := ⟨_, rfl⟩
                rw [← hW] at HXn HN
                rw [← hW]
                clear hW
                rw [← hbx] at HN
                rw [← hbx]
                clear hbx xn xs hst K9
                have HU := Lib.hid (HU.out.ext HXn.out); have HX := Lib.hid (HX.out.trans HXn.out)
                clear HXn
                have hn := eqNm_run (nmE u) (nmE u)
                have hwc : IntKind.i64.wrap ((a.length : Int) + 1) = ((cc.length : Nat) : Int) := by have := HCL.out; rw [IntKind.wrap_i64]; omega
                --STOP7
                refine wp_region_rel (fun i v w' => match i with
                    | 0 => v = .bool true
                    | 1 => v = .bool true
                    | 2 => v = .int .i64 ((1 : Nat) : Int)
                    | 3 => v = .bool true
                    | 4 => v = .bool true
                    | 5 => v = .bool true
                    | 6 => v = .slice AC cc.length cC
                    | 7 => v = .int .i64 (cc.length : Int)
                    | 8 => v = .slice (some ⟨bq, oq, none⟩) a.length ca
                    | 9 => v = .int .i64 (a.length : Int)
                    | 10 => v = .int .i64 (cc.length : Int)
                    | 11 => v = .bool true
                    | 12 => v = .bool true
                    | 13 => v = .bool true
                    | 14 => v = .int .i64 2
                    | 15 => v = .bool true
                    | 16 => v = .bool true
                    | 17 => v = .bool true
                    | 18 => v = .agg (nmE u).cells.toArray
                    | 19 => v = .agg u.cells.toArray
                    | 20 => v = .agg (nmE u).cells.toArray
                    | 21 => v = .bool true
                    | 22 => v = .bool true
                    | 23 => v = .bool true
                    | _ => True) hm (by kernel_rfl) (by kernel_rfl) rfl ?_ ?_ ?_
                · intro i v w1 w2 hx h
                  match i, h with
                  | 0, h => exact h
                  | 1, h => exact h
                  | 2, h => exact h
                  | 3, h => exact h
                  | 4, h => exact h
                  | 5, h => exact h
                  | 6, h => exact h
                  | 7, h => exact h
                  | 8, h => exact h
                  | 9, h => exact h
                  | 10, h => exact h
                  | 11, h => exact h
                  | 12, h => exact h
                  | 13, h => exact h
                  | 14, h => exact h
                  | 15, h => exact h
                  | 16, h => exact h
                  | 17, h => exact h
                  | 18, h => exact h
                  | 19, h => exact h
                  | 20, h => exact h
                  | 21, h => exact h
                  | 22, h => exact h
                  | 23, h => exact h
                  | i + 24, h => exact h
                · intro i o ho b w1 hx hmiss hdep K hK
                  match i, ho with
                  | 0, ho =>
                    obtain rfl := Option.some.inj ho
                    have e5 : b.tmps[5]? = some (.bool true) := hmiss 5 rfl
                    refine want_none rfl ?_
                    exact op_move rfl (eval_of e5) (hK _ w1 (Ext.refl _) rfl)
                  | 1, ho =>
                    obtain rfl := Option.some.inj ho
                    obtain ⟨v182, g182, e182⟩ := hdep 0 rfl
                    have g182 : v182 = .bool true := g182
                    subst g182
                    have e182 := e182 182 rfl
                    refine want_none rfl ?_
                    exact op_move rfl (eval_of e182) (hK _ w1 (Ext.refl _) rfl)
                  | 2, ho =>
                    obtain rfl := Option.some.inj ho
                    have e20 : b.tmps[20]? = some (.int .i64 ((1 : Nat) : Int)) := hmiss 20 rfl
                    obtain ⟨vg, gg, eg⟩ := hdep 1 rfl
                    have gg : vg = .bool true := gg
                    subst gg
                    have eg := eg 183 rfl
                    refine want_yes rfl rfl eg ?_
                    exact op_move rfl (eval_of e20) (hK _ w1 (Ext.refl _) rfl)
                  | 3, ho =>
                    obtain rfl := Option.some.inj ho
                    obtain ⟨v184, g184, e184⟩ := hdep 2 rfl
                    have g184 : v184 = .int .i64 ((1 : Nat) : Int) := g184
                    subst g184
                    have e184 := e184 184 rfl
                    obtain ⟨vg, gg, eg⟩ := hdep 1 rfl
                    have gg : vg = .bool true := gg
                    subst gg
                    have eg := eg 183 rfl
                    refine want_yes rfl rfl eg ?_
                    exact op_run (by unfold execOp; simp [e184, Act.eval, go_sem]) (hK _ w1 (Ext.refl _) rfl)
                  | 4, ho =>
                    obtain rfl := Option.some.inj ho
                    obtain ⟨v183, g183, e183⟩ := hdep 1 rfl
                    have g183 : v183 = .bool true := g183
                    subst g183
                    have e183 := e183 183 rfl
                    obtain ⟨v185, g185, e185⟩ := hdep 3 rfl
                    have g185 : v185 = .bool true := g185
                    subst g185
                    have e185 := e185 185 rfl
                    refine want_none rfl ?_
                    exact op_run (by unfold execOp; simp [e183, e185, Act.eval, go_sem]) (hK _ w1 (Ext.refl _) rfl)
                  | 5, ho =>
                    obtain rfl := Option.some.inj ho
                    obtain ⟨v186, g186, e186⟩ := hdep 4 rfl
                    have g186 : v186 = .bool true := g186
                    subst g186
                    have e186 := e186 186 rfl
                    refine want_none rfl ?_
                    exact op_move rfl (eval_of e186) (hK _ w1 (Ext.refl _) rfl)
                  | 6, ho =>
                    obtain rfl := Option.some.inj ho
                    have e19 : b.tmps[19]? = some (.slice AC cc.length cC) := hmiss 19 rfl
                    obtain ⟨vg, gg, eg⟩ := hdep 5 rfl
                    have gg : vg = .bool true := gg
                    subst gg
                    have eg := eg 187 rfl
                    refine want_yes rfl rfl eg ?_
                    exact op_move rfl (eval_of e19) (hK _ w1 (Ext.refl _) rfl)
                  | 7, ho =>
                    obtain rfl := Option.some.inj ho
                    obtain ⟨v188, g188, e188⟩ := hdep 6 rfl
                    have g188 : v188 = .slice AC cc.length cC := g188
                    subst g188
                    have e188 := e188 188 rfl
                    obtain ⟨vg, gg, eg⟩ := hdep 5 rfl
                    have gg : vg = .bool true := gg
                    subst gg
                    have eg := eg 187 rfl
                    refine want_yes rfl rfl eg ?_
                    exact op_run (by unfold execOp; simp [e188, Act.eval, go_sem]) (hK _ w1 (Ext.refl _) rfl)
                  | 8, ho =>
                    obtain rfl := Option.some.inj ho
                    have e6 : b.tmps[6]? = some (.slice (some ⟨bq, oq, none⟩) a.length ca) := hmiss 6 rfl
                    obtain ⟨vg, gg, eg⟩ := hdep 5 rfl
                    have gg : vg = .bool true := gg
                    subst gg
                    have eg := eg 187 rfl
                    refine want_yes rfl rfl eg ?_
                    exact op_move rfl (eval_of e6) (hK _ w1 (Ext.refl _) rfl)
                  | 9, ho =>
                    obtain rfl := Option.some.inj ho
                    obtain ⟨v190, g190, e190⟩ := hdep 8 rfl
                    have g190 : v190 = .slice (some ⟨bq, oq, none⟩) a.length ca := g190
                    subst g190
                    have e190 := e190 190 rfl
                    obtain ⟨vg, gg, eg⟩ := hdep 5 rfl
                    have gg : vg = .bool true := gg
                    subst gg
                    have eg := eg 187 rfl
                    refine want_yes rfl rfl eg ?_
                    exact op_run (by unfold execOp; simp [e190, Act.eval, go_sem]) (hK _ w1 (Ext.refl _) rfl)
                  | 10, ho =>
                    obtain rfl := Option.some.inj ho
                    obtain ⟨v191, g191, e191⟩ := hdep 9 rfl
                    have g191 : v191 = .int .i64 (a.length : Int) := g191
                    subst g191
                    have e191 := e191 191 rfl
                    obtain ⟨vg, gg, eg⟩ := hdep 5 rfl
                    have gg : vg = .bool true := gg
                    subst gg
                    have eg := eg 187 rfl
                    refine want_yes rfl rfl eg ?_
                    exact op_run (by unfold execOp; simp [e191, Act.eval, go_sem, hwc]) (hK _ w1 (Ext.refl _) rfl)
                  | 11, ho =>
                    obtain rfl := Option.some.inj ho
                    obtain ⟨v189, g189, e189⟩ := hdep 7 rfl
                    have g189 : v189 = .int .i64 (cc.length : Int) := g189
                    subst g189
                    have e189 := e189 189 rfl
                    obtain ⟨v192, g192, e192⟩ := hdep 10 rfl
                    have g192 : v192 = .int .i64 (cc.length : Int) := g192
                    subst g192
                    have e192 := e192 192 rfl
                    obtain ⟨vg, gg, eg⟩ := hdep 5 rfl
                    have gg : vg = .bool true := gg
                    subst gg
                    have eg := eg 187 rfl
                    refine want_yes rfl rfl eg ?_
                    exact op_run (by unfold execOp; simp [e189, e192, Act.eval, go_sem]) (hK _ w1 (Ext.refl _) rfl)
                  | 12, ho =>
                    obtain rfl := Option.some.inj ho
                    obtain ⟨v187, g187, e187⟩ := hdep 5 rfl
                    have g187 : v187 = .bool true := g187
                    subst g187
                    have e187 := e187 187 rfl
                    obtain ⟨v193, g193, e193⟩ := hdep 11 rfl
                    have g193 : v193 = .bool true := g193
                    subst g193
                    have e193 := e193 193 rfl
                    refine want_none rfl ?_
                    exact op_run (by unfold execOp; simp [e187, e193, Act.eval, go_sem]) (hK _ w1 (Ext.refl _) rfl)
                  | 13, ho =>
                    obtain rfl := Option.some.inj ho
                    obtain ⟨v194, g194, e194⟩ := hdep 12 rfl
                    have g194 : v194 = .bool true := g194
                    subst g194
                    have e194 := e194 194 rfl
                    refine want_none rfl ?_
                    exact op_move rfl (eval_of e194) (hK _ w1 (Ext.refl _) rfl)
                  | 14, ho =>
                    obtain rfl := Option.some.inj ho
                    have e22 : b.tmps[22]? = some (.int .i64 2) := hmiss 22 rfl
                    obtain ⟨vg, gg, eg⟩ := hdep 13 rfl
                    have gg : vg = .bool true := gg
                    subst gg
                    have eg := eg 195 rfl
                    refine want_yes rfl rfl eg ?_
                    exact op_move rfl (eval_of e22) (hK _ w1 (Ext.refl _) rfl)
                  | 15, ho =>
                    obtain rfl := Option.some.inj ho
                    obtain ⟨v196, g196, e196⟩ := hdep 14 rfl
                    have g196 : v196 = .int .i64 2 := g196
                    subst g196
                    have e196 := e196 196 rfl
                    obtain ⟨vg, gg, eg⟩ := hdep 13 rfl
                    have gg : vg = .bool true := gg
                    subst gg
                    have eg := eg 195 rfl
                    refine want_yes rfl rfl eg ?_
                    exact op_run (by unfold execOp; simp [e196, Act.eval, go_sem]) (hK _ w1 (Ext.refl _) rfl)
                  | 16, ho =>
                    obtain rfl := Option.some.inj ho
                    obtain ⟨v195, g195, e195⟩ := hdep 13 rfl
                    have g195 : v195 = .bool true := g195
                    subst g195
                    have e195 := e195 195 rfl
                    obtain ⟨v197, g197, e197⟩ := hdep 15 rfl
                    have g197 : v197 = .bool true := g197
                    subst g197
                    have e197 := e197 197 rfl
                    refine want_none rfl ?_
                    exact op_run (by unfold execOp; simp [e195, e197, Act.eval, go_sem]) (hK _ w1 (Ext.refl _) rfl)
                  | 17, ho =>
                    obtain rfl := Option.some.inj ho
                    obtain ⟨v198, g198, e198⟩ := hdep 16 rfl
                    have g198 : v198 = .bool true := g198
                    subst g198
                    have e198 := e198 198 rfl
                    refine want_none rfl ?_
                    exact op_move rfl (eval_of e198) (hK _ w1 (Ext.refl _) rfl)
                  | 18, ho =>
                    obtain rfl := Option.some.inj ho
                    have e23 : b.tmps[23]? = some (.pointer (some ⟨bn, 0, none⟩)) := hmiss 23 rfl
                    obtain ⟨vg, gg, eg⟩ := hdep 17 rfl
                    have gg : vg = .bool true := gg
                    subst gg
                    have eg := eg 199 rfl
                    refine want_yes rfl rfl eg ?_
                    exact op_loadrow rfl (eval_of e23) (HN.out.ext hx) _ Tryd.underlying24 rfl (by kernel_rfl) (hK _ w1 (Ext.refl _) rfl)
                  | 19, ho =>
                    obtain rfl := Option.some.inj ho
                    have e10 : b.tmps[10]? = some (.pointer (some ⟨bu, 0, none⟩)) := hmiss 10 rfl
                    obtain ⟨vg, gg, eg⟩ := hdep 17 rfl
                    have gg : vg = .bool true := gg
                    subst gg
                    have eg := eg 199 rfl
                    refine want_yes rfl rfl eg ?_
                    exact op_loadrow rfl (eval_of e10) (HU.out.ext hx) _ Tryd.underlying32 rfl (by kernel_rfl) (hK _ w1 (Ext.refl _) rfl)
                  | 20, ho =>
                    obtain rfl := Option.some.inj ho
                    obtain ⟨v201, g201, e201⟩ := hdep 19 rfl
                    have g201 : v201 = .agg u.cells.toArray := g201
                    subst g201
                    have e201 := e201 201 rfl
                    obtain ⟨vg, gg, eg⟩ := hdep 17 rfl
                    have gg : vg = .bool true := gg
                    subst gg
                    have eg := eg 199 rfl
                    refine want_yes rfl rfl eg ?_
                    have hc : Calls Tryd.prog 24 #[.agg u.cells.toArray] w1 fun e w' => ∃ v, e = .returned v ∧ Ext w1 w' ∧ (v = .agg (nmE u).cells.toArray) := (Name_any u w1).mono fun e w2 ⟨h1, h2⟩ => ⟨_, h1, h2, rfl⟩
                    exact op_call (G := fun v w' => v = .agg (nmE u).cells.toArray) rfl (by simp [eval_of e201]) (fun _ _ => by kernel_rfl) hc (fun v w' h1 h2 => hK v w' h1 h2)
                  | 21, ho =>
                    obtain rfl := Option.some.inj ho
                    obtain ⟨v200, g200, e200⟩ := hdep 18 rfl
                    have g200 : v200 = .agg (nmE u).cells.toArray := g200
                    subst g200
                    have e200 := e200 200 rfl
                    obtain ⟨v202, g202, e202⟩ := hdep 20 rfl
                    obtain rfl := g202
                    have e202 := e202 202 rfl
                    obtain ⟨vg, gg, eg⟩ := hdep 17 rfl
                    have gg : vg = .bool true := gg
                    subst gg
                    have eg := eg 199 rfl
                    refine want_yes rfl rfl eg ?_
                    exact op_run (by unfold execOp; simp [e200, e202, Act.eval, go_sem, hn]) (hK _ w1 (Ext.refl _) rfl)
                  | 22, ho =>
                    obtain rfl := Option.some.inj ho
                    obtain ⟨v199, g199, e199⟩ := hdep 17 rfl
                    have g199 : v199 = .bool true := g199
                    subst g199
                    have e199 := e199 199 rfl
                    obtain ⟨v203, g203, e203⟩ := hdep 21 rfl
                    have g203 : v203 = .bool true := g203
                    subst g203
                    have e203 := e203 203 rfl
                    refine want_none rfl ?_
                    exact op_run (by unfold execOp; simp [e199, e203, Act.eval, go_sem]) (hK _ w1 (Ext.refl _) rfl)
                  | 23, ho =>
                    obtain rfl := Option.some.inj ho
                    obtain ⟨v204, g204, e204⟩ := hdep 22 rfl
                    have g204 : v204 = .bool true := g204
                    subst g204
                    have e204 := e204 204 rfl
                    refine want_none rfl ?_
                    exact op_assign rfl (eval_of e204) (hK _ w1 (Ext.refl _) rfl)
                  | i + 24, ho => cases ho
                · intro V w9 hx hg
                  have g0 : V 0 = .bool true := hg 0 (by decide)
                  have g1 : V 1 = .bool true := hg 1 (by decide)
                  have g2 : V 2 = .int .i64 ((1 : Nat) : Int) := hg 2 (by decide)
                  have g3 : V 3 = .bool true := hg 3 (by decide)
                  have g4 : V 4 = .bool true := hg 4 (by decide)
                  have g5 : V 5 = .bool true := hg 5 (by decide)
                  have g6 : V 6 = .slice AC cc.length cC := hg 6 (by decide)
                  have g7 : V 7 = .int .i64 (cc.length : Int) := hg 7 (by decide)
                  have g8 : V 8 = .slice (some ⟨bq, oq, none⟩) a.length ca := hg 8 (by decide)
                  have g9 : V 9 = .int .i64 (a.length : Int) := hg 9 (by decide)
                  have g10 : V 10 = .int .i64 (cc.length : Int) := hg 10 (by decide)
                  have g11 : V 11 = .bool true := hg 11 (by decide)
                  have g12 : V 12 = .bool true := hg 12 (by decide)
                  have g13 : V 13 = .bool true := hg 13 (by decide)
                  have g14 : V 14 = .int .i64 2 := hg 14 (by decide)
                  have g15 : V 15 = .bool true := hg 15 (by decide)
                  have g16 : V 16 = .bool true := hg 16 (by decide)
                  have g17 : V 17 = .bool true := hg 17 (by decide)
                  have g18 : V 18 = .agg (nmE u).cells.toArray := hg 18 (by decide)
                  have g19 : V 19 = .agg u.cells.toArray := hg 19 (by decide)
                  have g21 : V 21 = .bool true := hg 21 (by decide)
                  have g22 : V 22 = .bool true := hg 22 (by decide)
                  have g23 : V 23 = .bool true := hg 23 (by decide)
                  have g20 := hg 20 (by decide)
                  simp only [List.length_cons, List.length_nil, fillAllN, dstOf, Act.put, List.getElem?_toArray, List.getElem?_cons_zero, List.getElem?_cons_succ, Option.bind_some, g0, g1, g2, g3, g4, g5, g6, g7, g8, g9, g10, g11, g12, g13, g14, g15, g16, g17, g18, g19, g21, g22, g23, List.setIfInBounds_toArray, List.set_cons_zero, List.set_cons_succ]
                  clear g0 g1 g2 g3 g4 g5 g6 g7 g8 g9 g10 g11 g12 g13 g14 g15 g16 g17 g18 g19 g21 g22 g23 hg
                  go_wp2_with fail
                  go_ret
                  exact ⟨rfl, HX.out.trans hx⟩
end Go.Proofs.YtcfebfblmmbeaaaDoor

/- HistoryUndoes: for every input the law returns true, and each argument reads as it did. No condition. -/
namespace Go.Proofs.YtcfebfblmmbeaaaDoor
open Go Go.RowKit Go.ChangeShapes Go.WideShapes Go.ChangeAt

theorem u8b_Jd {n : Int} (h : (Lit.int .u8 n).wf = true) : 0 ≤ n ∧ n ≤ 255 := by simpa [Lit.wf, IntKind.min, IntKind.max, IntKind.signed, IntKind.bits] using h
set_option maxHeartbeats 1600000 in
set_option maxRecDepth 100000 in
theorem historyUndoes_lifted (os : Os) (started : os.Started) (H : Type) (enc : TypeId × Value → H) :
    ReturnsInHanded {} Tryd.checked os 6 .any (fun w args => (Rows.historyUndoesSpec.pre enc Tryd.prog Tryd.f6 Rows.historyUndoesRow.domain false w args ∧ laidMetH Tryd.prog laidL w) ∧ sizedMet enc Tryd.prog Tryd.f6 (OpenSpec.ofChange Rows.historyUndoesSpec) false w args) (Rows.historyUndoesSpec.post enc Tryd.prog Tryd.f6 false true false false) := by
  refine returnsInHanded_of_change_and (C := Tryd.checked) (X := fun w _ => laidMetH Tryd.prog laidL w) (fun _ _ _ hh h => h.of_heap hh) own_ started (by kernel_rfl) Tryd.func6
    (ChangeSpec.witness_shaped (enc := enc) (C := Tryd.checked) (os := os) (X := fun w _ => laidMetH Tryd.prog laidL w) false (World.laidAll Tryd.prog os laidL) #[.slice none 0 0, .int .u8 0] 8 (World.laidAll_os _ _ _) (World.shaped_of_ZipB (by kernel_rfl) (by kernel_rfl)) (by kernel_rfl) (by kernel_rfl) (by kernel_rfl)
      (by rw [MakeChecks.laidMetH_plain _ _ _ (by kernel_rfl)]; exact laidMet_laidAll _ (by kernel_rfl) (by kernel_rfl))) ?_
  intro W base args ds gs before hval0 hW hcnd hsz hLd _
  have hval : ∀ (j : Nat) t v, Tryd.f6.params[j]? = some t → args[j]? = some v → Value.okWide Tryd.prog W .any base t v := hval0
  have hLd := laid_of hLd
  have hW' := hW
  obtain ⟨p, q, hA0, hV, rfl, hfz, hnd⟩ := hW
  have hA : DataW.TrodAll enc Tryd.prog W 0 (fun _ => true) true Tryd.f6.params.toList args.toList ds p := hA0
  have hAll := hA
  rw [Tryd.params6] at hA hval
  obtain ⟨v0, vs0, d0, ds0, p0, q0, ha, rfl, rfl, h0, r0⟩ := trodAll_cons hA
  obtain ⟨v1, vs1, d1, ds1, p1, q1, rfl, rfl, rfl, h1, r1⟩ := trodAll_cons r0
  obtain ⟨rfl, rfl, rfl⟩ := trodAll_nil r1
  obtain ⟨rfl, rfl⟩ := trodVars_none hV
  have hargs : args = #[v0, v1] := by apply Array.ext'; exact ha
  subst hargs
  obtain ⟨A, c, l, rfl, hs, _⟩ := read_Eds (hval 0 _ _ rfl rfl) h0
  obtain ⟨pick, rfl, rfl, rfl, hu1⟩ := open_int Tryd.underlying5 (hval 1 _ _ rfl rfl) h1
  have hr0 : l.length * Tryd.prog.bytesOf 32 ≤ reachBytes := reach_len hsz (j := 0) (t := 22) (by rw [Tryd.params6]; rfl) rfl Tryd.underlying22 h0
  rw [show Tryd.prog.bytesOf 32 = 136 by kernel_rfl] at hr0
  unfold reachBytes at hr0
  refine (HistoryUndoes_any A c l pick W hs (by omega) (u8b_Jd hu1) hLd).mono fun e W' ⟨he, hx⟩ => ?_
  subst he
  have hlt : ∀ x, x ∈ (p0 ++ ([] ++ [])) → x.block < W.heap.size := fun x hx2 => hW'.lt x (by simpa using hx2)
  exact ⟨_, rfl, _, _, _, [], _, [], hW', trodAll_mk1 (shut_bool Tryd.underlying4 true), args_below laidOut_ _ _ _ _ W' (by rw [Tryd.params6]; intro t ht; simp at ht; rcases ht with rfl | rfl <;> exact ⟨by kernel_rfl, of_decide_eq_true (by kernel_rfl)⟩) hAll hx.below hlt, rfl, hx.below.frame _, fun h => by cases h⟩

theorem historyUndoes_row : Rows.HistoryUndoesSaid :=
  OpenClaim.holds_of_wide 6 Tryd.f6 rfl rfl rfl rfl rfl rfl rfl ⟨rfl, rfl, rfl, rfl, rfl⟩ rfl rfl rfl rfl rfl (by kernel_rfl) Tryd.func6 (by kernel_rfl)
    (of_decide_eq_true (by kernel_rfl)) (by unfold Func.isWrapper; rw [if_neg (of_decide_eq_false (by kernel_rfl))]; exact ⟨rfl, rfl⟩)
    (fun os started H enc _ => historyUndoes_lifted os started H enc)

theorem historyUndoes_holds : Rows.HistoryUndoesCardSaid :=
  Claim7.holds_tied_plain_at .later [] [.data] true Rows.historyUndoesCard.stood.harness false
    historyUndoes_row (fun _ h => by cases h) (by kernel_rfl) (fun _ h => by cases h) historyUndoes_row_tie rfl ⟨rfl, rfl⟩ (by kernel_rfl) rfl
    (fun f fn hf hfn => by
      obtain rfl : f = 6 := Option.some.inj ((show Tryd.prog.funcNamed "voxel/voxellaw27.HistoryUndoes" = some 6 by kernel_rfl).symm.trans hf) |>.symm
      obtain rfl : fn = Tryd.f6 := (Option.some.inj (Tryd.func6.symm.trans hfn)).symm
      exact ⟨by kernel_rfl, fun j t ht => by
        rw [Tryd.params6] at ht
        have hm : t ∈ [22, 5] := by simpa using Array.mem_of_getElem? ht
        have hall : ([22, 5].all fun u => !Tryd.prog.wantsStandIn u) = true := by kernel_rfl
        exact (show Tryd.prog.wantsStandIn t = false by simpa using List.all_eq_true.1 hall t hm)⟩)
    (by kernel_rfl)
end Go.Proofs.YtcfebfblmmbeaaaDoor
