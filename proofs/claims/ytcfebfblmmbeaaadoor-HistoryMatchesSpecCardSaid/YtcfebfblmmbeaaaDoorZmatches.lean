/- YtcfebfblmmbeaaaDoorJa · YtcfebfblmmbeaaaDoorJaP -/
import Derived.Test.YtcfebfblmmbeaaaDoorTie
import Derived.Test.YtcfebfblmmbeaaaDoorCards
import Derived.LaidLaws
import Derived.SevenTiedAt
import Derived.Test.YtcfebfblmmbeaaaDoorZa9
/- HistoryMatchesSpec. -/
namespace Go.Proofs.YtcfebfblmmbeaaaDoor
open Go Go.RowKit

set_option maxRecDepth 100000 in
set_option maxHeartbeats 16000000 in
theorem HistoryMatchesSpec_any (A A2 : Option Addr) (c c2 : Nat) (l m : List Ed) (n : Nm) (x : Ed) (w : World) (hs : Sv w w.heap.size 17 A c (rowsE l)) (hs2 : Sv w w.heap.size 17 A2 c2 (rowsE m)) (hR : RowsIn w) :
    Calls Tryd.prog 3 #[.slice A l.length c, .slice A2 m.length c2, nmV n, .agg x.cells.toArray] w fun e w' => e = .returned (.bool true) ∧ Ext w w' := by
  have hm := mixed
  have hx0 : Ext w ((w.alloc (.cells ([.int .i64 n.site, .int .i64 n.seq] : List Value).toArray 24)).alloc (.cells x.cells.toArray 32)) := ((Ext.refl w).alloc _).alloc _
  have HN0 := Lib.hid ((Arr.new w 24 [.int .i64 n.site, .int .i64 n.seq]).alloc (.cells x.cells.toArray 32))
  have HE0 := Lib.hid (Arr.new1 w (.cells ([.int .i64 n.site, .int .i64 n.seq] : List Value).toArray 24) 32 x.cells)
  have HL := Lib.hid (hs.ext hx0); have HM := Lib.hid (hs2.ext hx0); have HR := Lib.hid (hR.ext hx0); have HX := Lib.hid hx0
  have hll := hs.len; have hml := hs2.len
  rw [rowsE_length] at hll hml
  clear hs hs2 hR hx0
  unfold nmV
  go_enter Tryd.func3, Tryd.ntmps3
  go_upto_region 1 with fail
  obtain ⟨W0, hW⟩ : ∃ W, W = (w.alloc (.cells ([.int .i64 n.site, .int .i64 n.seq] : List Value).toArray 24)).alloc (.cells x.cells.toArray 32) := ⟨_, rfl⟩
  rw [← hW] at HN0 HE0 HL HM HR HX
  rw [← hW]
  clear hW
  have HSN := Lib.hid (sanity_any W0 HR.out)
  go_upto_region 2 with (go_at_call 8; refine HSN.out.mono ?_; rintro e W1 ⟨rfl, xs⟩)
  have HL := Lib.hid (HL.out.ext xs); have HM := Lib.hid (HM.out.ext xs); have HR := Lib.hid (HR.out.ext xs); have HX := Lib.hid (HX.out.trans xs); have HN := Lib.hid (HN0.out.ext xs); have HE := Lib.hid (HE0.out.ext xs)
  clear xs HSN HN0 HE0
  by_cases hlong : (30 : Int) < (l.length : Int)
  · go_wp2_with fail
    go_ret
    exact ⟨rfl, HX.out⟩
  by_cases hlong2 : (30 : Int) < (m.length : Int)
  · go_wp2_with fail
    go_ret
    exact ⟨rfl, HX.out⟩
  have hl30 : l.length ≤ 30 := by omega
  have hm30 : m.length ≤ 30 := by omega
  have HLN := Lib.hid hl30; have HMN := Lib.hid hm30
  clear hl30 hm30
  have hG := near_old
  go_upto_region 5 with (first
      | (refine wpList_load_blk 24 (.tmp 6) rfl rfl HN.out rfl _ Tryd.underlying24 rfl (by kernel_rfl) ?_)
      | (go_at_call 9; refine (Status_any A c l n W1 HL.out (by have := HLN.out; omega) HR.out).mono ?_; rintro e Ws ⟨k1, u1, hst, rfl, xs⟩; have HST := Lib.hid hst; clear hst)
      | (refine wpList_store_blk 24 (.tmp 11) (.tmp 40) rfl rfl (Arr.new Ws 24 [.int .i64 0, .int .i64 0]) [.int .i64 u1.site, .int .i64 u1.seq] rfl rfl (by kernel_rfl) rfl rfl ?_))
  have xn := xs.trans (((Ext.refl Ws).alloc (.cells ([.int .i64 0, .int .i64 0] : List Value).toArray 24)).setRow (g := Ws.heap.size) (Nat.le_refl _) ([.int .i64 u1.site, .int .i64 u1.seq] : List Value).toArray)
  have HP := Lib.hid ((Arr.new Ws 24 [.int .i64 0, .int .i64 0]).setRow [.int .i64 u1.site, .int .i64 u1.seq])
  obtain ⟨W2, hW⟩ : ∃ W, W = (Ws.alloc (.cells ([.int .i64 0, .int .i64 0] : List Value).toArray 24)).setRow Ws.heap.size ([.int .i64 u1.site, .int .i64 u1.seq] : List Value).toArray := ⟨_, rfl⟩
  rw [← hW] at xn HP
  rw [← hW]
  clear hW xs
  obtain ⟨bHP, hb4⟩ : ∃ b, b = Ws.heap.size := ⟨_, rfl⟩
  rw [← hb4] at HP
  rw [← hb4]
  clear hb4
  have HL := Lib.hid (HL.out.ext xn)
  have HM := Lib.hid (HM.out.ext xn)
  have HR := Lib.hid (HR.out.ext xn)
  have HN := Lib.hid (HN.out.ext xn)
  have HE := Lib.hid (HE.out.ext xn)
  have HX := Lib.hid (HX.out.trans xn)
  clear xn
  go_upto_region 6 with (first
      | (refine wpList_load_blk 24 (.tmp 6) rfl rfl HN.out rfl _ Tryd.underlying24 rfl (by kernel_rfl) ?_)
      | (go_at_call 10; refine (refStatus_any A c l n W2 HL.out (by have := HLN.out; omega)).mono ?_; rintro e Ws ⟨k2, u2, hst2, rfl, xs⟩; obtain ⟨rfl, rfl⟩ := HST.out.uniq hst2; clear hst2)
      | (refine wpList_store_blk 24 (.tmp 13) (.tmp 46) rfl rfl (Arr.new Ws 24 [.int .i64 0, .int .i64 0]) [.int .i64 u1.site, .int .i64 u1.seq] rfl rfl (by kernel_rfl) rfl rfl ?_))
  have xn := xs.trans (((Ext.refl Ws).alloc (.cells ([.int .i64 0, .int .i64 0] : List Value).toArray 24)).setRow (g := Ws.heap.size) (Nat.le_refl _) ([.int .i64 u1.site, .int .i64 u1.seq] : List Value).toArray)
  have HQ := Lib.hid ((Arr.new Ws 24 [.int .i64 0, .int .i64 0]).setRow [.int .i64 u1.site, .int .i64 u1.seq])
  obtain ⟨W3, hW⟩ : ∃ W, W = (Ws.alloc (.cells ([.int .i64 0, .int .i64 0] : List Value).toArray 24)).setRow Ws.heap.size ([.int .i64 u1.site, .int .i64 u1.seq] : List Value).toArray := ⟨_, rfl⟩
  rw [← hW] at xn HQ
  rw [← hW]
  clear hW xs
  obtain ⟨bHQ, hb4⟩ : ∃ b, b = Ws.heap.size := ⟨_, rfl⟩
  rw [← hb4] at HQ
  rw [← hb4]
  clear hb4
  have HL := Lib.hid (HL.out.ext xn)
  have HM := Lib.hid (HM.out.ext xn)
  have HR := Lib.hid (HR.out.ext xn)
  have HN := Lib.hid (HN.out.ext xn)
  have HE := Lib.hid (HE.out.ext xn)
  have HP := Lib.hid (HP.out.ext xn)
  have HX := Lib.hid (HX.out.trans xn)
  clear xn
  have dN0 := HN.out.cell 0; have dNb := HN.out.lt
  simp only [List.getElem?_cons_zero] at dN0
  go_upto_region 7 with (go_at_call 11; refine (Undoable_any A c l n.site W3 HL.out (by have := HLN.out; omega) HR.out).mono ?_; rintro e W4 ⟨ac, hac, rfl, xs⟩)
  clear dN0 dNb
  have HAC := Lib.hid hac; clear hac
  have HL := Lib.hid (HL.out.ext xs)
  have HM := Lib.hid (HM.out.ext xs)
  have HR := Lib.hid (HR.out.ext xs)
  have HN := Lib.hid (HN.out.ext xs)
  have HE := Lib.hid (HE.out.ext xs)
  have HP := Lib.hid (HP.out.ext xs)
  have HQ := Lib.hid (HQ.out.ext xs)
  have HX := Lib.hid (HX.out.trans xs)
  clear xs
  have dN0 := HN.out.cell 0; have dNb := HN.out.lt
  simp only [List.getElem?_cons_zero] at dN0
  go_upto_region 8 with (go_at_call 12; refine (refUndoable_any A c l n.site W4 HL.out (by have := HLN.out; omega)).mono ?_; rintro e W5 ⟨a2, ha2, rfl, xs⟩; obtain rfl := HAC.out.uniq ha2; clear ha2)
  clear dN0 dNb
  have HL := Lib.hid (HL.out.ext xs)
  have HM := Lib.hid (HM.out.ext xs)
  have HR := Lib.hid (HR.out.ext xs)
  have HN := Lib.hid (HN.out.ext xs)
  have HE := Lib.hid (HE.out.ext xs)
  have HP := Lib.hid (HP.out.ext xs)
  have HQ := Lib.hid (HQ.out.ext xs)
  have HX := Lib.hid (HX.out.trans xs)
  clear xs
  have dN0 := HN.out.cell 0; have dNb := HN.out.lt
  simp only [List.getElem?_cons_zero] at dN0
  go_upto_region 9 with (go_at_call 13; refine (Redoable_any A c l n.site W5 HL.out (by have := HLN.out; omega) HR.out).mono ?_; rintro e W6 ⟨a2, ha2, rfl, xs⟩; obtain rfl := HAC.out.uniq ha2; clear ha2)
  clear dN0 dNb
  have HL := Lib.hid (HL.out.ext xs)
  have HM := Lib.hid (HM.out.ext xs)
  have HR := Lib.hid (HR.out.ext xs)
  have HN := Lib.hid (HN.out.ext xs)
  have HE := Lib.hid (HE.out.ext xs)
  have HP := Lib.hid (HP.out.ext xs)
  have HQ := Lib.hid (HQ.out.ext xs)
  have HX := Lib.hid (HX.out.trans xs)
  clear xs
  have dN0 := HN.out.cell 0; have dNb := HN.out.lt
  simp only [List.getElem?_cons_zero] at dN0
  go_upto_region 10 with (go_at_call 14; refine (refRedoable_any A c l n.site W6 HL.out (by have := HLN.out; omega)).mono ?_; rintro e W7 ⟨a2, ha2, rfl, xs⟩; obtain rfl := HAC.out.uniq ha2; clear ha2)
  clear dN0 dNb
  have HL := Lib.hid (HL.out.ext xs)
  have HM := Lib.hid (HM.out.ext xs)
  have HR := Lib.hid (HR.out.ext xs)
  have HN := Lib.hid (HN.out.ext xs)
  have HE := Lib.hid (HE.out.ext xs)
  have HP := Lib.hid (HP.out.ext xs)
  have HQ := Lib.hid (HQ.out.ext xs)
  have HX := Lib.hid (HX.out.trans xs)
  clear xs
  go_upto_region 11 with (first
      | (go_at_call 16; refine (Set_any A c l W7 HL.out (by have := HLN.out; omega) HR.out).mono ?_; rintro e wa ⟨s1, h1, A5, c5, rfl, v1, xa⟩; have HXA := Lib.hid xa; have HV := Lib.hid v1; have HS1 := Lib.hid h1; clear xa v1 h1)
      | (go_at_call 17; refine (refSet_any A c l wa (HL.out.ext HXA.out) (by have := HLN.out; omega)).mono ?_; rintro e wb ⟨s2, h2, A6, c6, rfl, v2, xb⟩; obtain rfl := HS1.out.uniq h2; have hsl := Nat.le_trans HS1.out.len HLN.out; have HXB := Lib.hid xb; have HV1 := Lib.hid (HV.out.ext xb); have HV2 := Lib.hid v2; clear h2 xb v2)
      | (go_at_call 15; refine (same_known A5 A6 c5 c6 s1.length s1.length s1 s1 wb HV1.out HV2.out rfl rfl (by omega) rfl).mono ?_; rintro e W8 ⟨rfl, xc⟩))
  have xs := (HXA.out.trans HXB.out).trans xc
  clear xc HXA HXB HV HV1 HV2 HS1 hsl
  have HL := Lib.hid (HL.out.ext xs)
  have HM := Lib.hid (HM.out.ext xs)
  have HR := Lib.hid (HR.out.ext xs)
  have HN := Lib.hid (HN.out.ext xs)
  have HE := Lib.hid (HE.out.ext xs)
  have HP := Lib.hid (HP.out.ext xs)
  have HQ := Lib.hid (HQ.out.ext xs)
  have HX := Lib.hid (HX.out.trans xs)
  clear xs
  go_upto_region 12 with (first
      | (go_at_call 19; refine (Forks_any A c l W8 HL.out (by have := HLN.out; omega) HR.out).mono ?_; rintro e wa ⟨s1, h1, A5, c5, rfl, v1, xa⟩; have HXA := Lib.hid xa; have HV := Lib.hid v1; have HS1 := Lib.hid h1; clear xa v1 h1)
      | (go_at_call 20; refine (refForks_any A c l wa (HL.out.ext HXA.out) (by have := HLN.out; omega)).mono ?_; rintro e wb ⟨s2, h2, A6, c6, rfl, v2, xb⟩; obtain rfl := HS1.out.uniq h2; have hsl := Nat.le_trans HS1.out.len HLN.out; have HXB := Lib.hid xb; have HV1 := Lib.hid (HV.out.ext xb); have HV2 := Lib.hid v2; clear h2 xb v2)
      | (go_at_call 18; refine (sameNm_known A5 A6 c5 c6 s1.length s1.length s1 s1 wb HV1.out HV2.out rfl rfl (by omega) rfl).mono ?_; rintro e W9 ⟨rfl, xc⟩))
  have xs := (HXA.out.trans HXB.out).trans xc
  clear xc HXA HXB HV HV1 HV2 HS1 hsl
  have HL := Lib.hid (HL.out.ext xs)
  have HM := Lib.hid (HM.out.ext xs)
  have HR := Lib.hid (HR.out.ext xs)
  have HN := Lib.hid (HN.out.ext xs)
  have HE := Lib.hid (HE.out.ext xs)
  have HP := Lib.hid (HP.out.ext xs)
  have HQ := Lib.hid (HQ.out.ext xs)
  have HX := Lib.hid (HX.out.trans xs)
  clear xs
  go_upto_region 13 with (first
      | (go_at_call 21; refine (Active_any A c l W9 HL.out (by have := HLN.out; omega) HR.out).mono ?_; rintro e wa ⟨s1, h1, A5, c5, rfl, v1, xa⟩; have HXA := Lib.hid xa; have HV := Lib.hid v1; have HS1 := Lib.hid h1; clear xa v1 h1)
      | (go_at_call 22; refine (refActive_any A c l wa (HL.out.ext HXA.out) (by have := HLN.out; omega)).mono ?_; rintro e wb ⟨s2, h2, A6, c6, rfl, v2, xb⟩; obtain rfl := HS1.out.uniq h2; have hsl := Nat.le_trans HS1.out.len HLN.out; have HXB := Lib.hid xb; have HV1 := Lib.hid (HV.out.ext xb); have HV2 := Lib.hid v2; clear h2 xb v2)
      | (go_at_call 15; refine (same_known A5 A6 c5 c6 s1.length s1.length s1 s1 wb HV1.out HV2.out rfl rfl (by omega) rfl).mono ?_; rintro e W10 ⟨rfl, xc⟩))
  have xs := (HXA.out.trans HXB.out).trans xc
  clear xc HXA HXB HV HV1 HV2 HS1 hsl
  have HL := Lib.hid (HL.out.ext xs)
  have HM := Lib.hid (HM.out.ext xs)
  have HR := Lib.hid (HR.out.ext xs)
  have HN := Lib.hid (HN.out.ext xs)
  have HE := Lib.hid (HE.out.ext xs)
  have HP := Lib.hid (HP.out.ext xs)
  have HQ := Lib.hid (HQ.out.ext xs)
  have HX := Lib.hid (HX.out.trans xs)
  clear xs
  clear hG hlong hlong2 hll hml
  have hn1 := eqNm_run u1 u1
  have hn2 := eqNm_run (nmE x) (nmE x)
  generalize hbf : bestE n.site false ac = bf
  generalize hbt : bestE n.site true ac = bt
  refine wp_region_rel (fun i v w' => match i with
      | 0 => v = .bool true
      | 1 => v = .bool true
      | 2 => v = .bool true
      | 3 => v = .bool true
      | 4 => v = .bool true
      | 5 => v = .bool true
      | 6 => v = .bool true
      | 7 => v = .bool true
      | 8 => v = .bool true
      | 9 => v = .bool true
      | 10 => v = .bool true
      | 11 => v = .int .i64 k1
      | 12 => v = .int .i64 k1
      | 13 => v = .bool true
      | 14 => v = .bool true
      | 15 => v = .bool true
      | 16 => v = .agg u1.cells.toArray
      | 17 => v = .agg u1.cells.toArray
      | 18 => v = .bool true
      | 19 => v = .bool true
      | 20 => v = .bool true
      | 21 => v = .int .i64 (bf)
      | 22 => v = .int .i64 (bf)
      | 23 => v = .bool true
      | 24 => v = .bool true
      | 25 => v = .bool true
      | 26 => v = .bool (decide (0 < bf))
      | 27 => v = .bool (decide (0 < bf))
      | 28 => v = .bool true
      | 29 => v = .bool true
      | 30 => v = .bool true
      | 31 => v = .int .i64 (bt)
      | 32 => v = .int .i64 (bt)
      | 33 => v = .bool true
      | 34 => v = .bool true
      | 35 => v = .bool true
      | 36 => v = .bool (decide (0 < bt))
      | 37 => v = .bool (decide (0 < bt))
      | 38 => v = .bool true
      | 39 => v = .bool true
      | 40 => v = .bool true
      | 41 => v = .slice A l.length c
      | 42 => v = .slice A2 m.length c2
      | 43 => v = .bool (decide (l = m))
      | 44 => v = .slice A l.length c
      | 45 => v = .slice A2 m.length c2
      | 46 => v = .bool (decide (l = m))
      | 47 => v = .bool true
      | 48 => v = .bool true
      | 49 => v = .bool true
      | 50 => v = .agg x.cells.toArray
      | 51 => v = .agg (nmE x).cells.toArray
      | 52 => v = .agg x.cells.toArray
      | 53 => v = .agg (nmE x).cells.toArray
      | 54 => v = .bool true
      | 55 => v = .bool true
      | 56 => v = .bool true
      | _ => True) hm (by kernel_rfl) (by kernel_rfl) rfl ?_ ?_ ?_
  · intro i v w1 w2 hx h
    match i, h with
    | 0, h => exact h
    | 1, h => exact h
    | 2, h => exact h
    | 3, h => exact h
    | 4, h => exact h
    | 5, h => exact h
    | 6, h => exact h
    | 7, h => exact h
    | 8, h => exact h
    | 9, h => exact h
    | 10, h => exact h
    | 11, h => exact h
    | 12, h => exact h
    | 13, h => exact h
    | 14, h => exact h
    | 15, h => exact h
    | 16, h => exact h
    | 17, h => exact h
    | 18, h => exact h
    | 19, h => exact h
    | 20, h => exact h
    | 21, h => exact h
    | 22, h => exact h
    | 23, h => exact h
    | 24, h => exact h
    | 25, h => exact h
    | 26, h => exact h
    | 27, h => exact h
    | 28, h => exact h
    | 29, h => exact h
    | 30, h => exact h
    | 31, h => exact h
    | 32, h => exact h
    | 33, h => exact h
    | 34, h => exact h
    | 35, h => exact h
    | 36, h => exact h
    | 37, h => exact h
    | 38, h => exact h
    | 39, h => exact h
    | 40, h => exact h
    | 41, h => exact h
    | 42, h => exact h
    | 43, h => exact h
    | 44, h => exact h
    | 45, h => exact h
    | 46, h => exact h
    | 47, h => exact h
    | 48, h => exact h
    | 49, h => exact h
    | 50, h => exact h
    | 51, h => exact h
    | 52, h => exact h
    | 53, h => exact h
    | 54, h => exact h
    | 55, h => exact h
    | 56, h => exact h
    | i + 57, h => exact h
  · intro i o ho b w1 hx hmiss hdep K hK
    match i, ho with
    | 0, ho =>
      obtain rfl := Option.some.inj ho
      have e9 : b.tmps[9]? = some (.bool true) := hmiss 9 rfl
      refine want_none rfl ?_
      exact op_move rfl (eval_of e9) (hK _ w1 (Ext.refl _) rfl)
    | 1, ho =>
      obtain rfl := Option.some.inj ho
      obtain ⟨v90, g90, e90⟩ := hdep 0 rfl
      have g90 : v90 = .bool true := g90
      subst g90
      have e90 := e90 90 rfl
      refine want_none rfl ?_
      exact op_move rfl (eval_of e90) (hK _ w1 (Ext.refl _) rfl)
    | 2, ho =>
      obtain rfl := Option.some.inj ho
      have e22 : b.tmps[22]? = some (.bool true) := hmiss 22 rfl
      obtain ⟨vg, gg, eg⟩ := hdep 1 rfl
      have gg : vg = .bool true := gg
      subst gg
      have eg := eg 91 rfl
      refine want_yes rfl rfl eg ?_
      exact op_move rfl (eval_of e22) (hK _ w1 (Ext.refl _) rfl)
    | 3, ho =>
      obtain rfl := Option.some.inj ho
      obtain ⟨v91, g91, e91⟩ := hdep 1 rfl
      have g91 : v91 = .bool true := g91
      subst g91
      have e91 := e91 91 rfl
      obtain ⟨v92, g92, e92⟩ := hdep 2 rfl
      have g92 : v92 = .bool true := g92
      subst g92
      have e92 := e92 92 rfl
      refine want_none rfl ?_
      exact op_run (by unfold execOp; simp [e91, e92, Act.eval, go_sem]) (hK _ w1 (Ext.refl _) rfl)
    | 4, ho =>
      obtain rfl := Option.some.inj ho
      obtain ⟨v93, g93, e93⟩ := hdep 3 rfl
      have g93 : v93 = .bool true := g93
      subst g93
      have e93 := e93 93 rfl
      refine want_none rfl ?_
      exact op_move rfl (eval_of e93) (hK _ w1 (Ext.refl _) rfl)
    | 5, ho =>
      obtain rfl := Option.some.inj ho
      have e23 : b.tmps[23]? = some (.bool true) := hmiss 23 rfl
      obtain ⟨vg, gg, eg⟩ := hdep 4 rfl
      have gg : vg = .bool true := gg
      subst gg
      have eg := eg 94 rfl
      refine want_yes rfl rfl eg ?_
      exact op_move rfl (eval_of e23) (hK _ w1 (Ext.refl _) rfl)
    | 6, ho =>
      obtain rfl := Option.some.inj ho
      obtain ⟨v94, g94, e94⟩ := hdep 4 rfl
      have g94 : v94 = .bool true := g94
      subst g94
      have e94 := e94 94 rfl
      obtain ⟨v95, g95, e95⟩ := hdep 5 rfl
      have g95 : v95 = .bool true := g95
      subst g95
      have e95 := e95 95 rfl
      refine want_none rfl ?_
      exact op_run (by unfold execOp; simp [e94, e95, Act.eval, go_sem]) (hK _ w1 (Ext.refl _) rfl)
    | 7, ho =>
      obtain rfl := Option.some.inj ho
      obtain ⟨v96, g96, e96⟩ := hdep 6 rfl
      have g96 : v96 = .bool true := g96
      subst g96
      have e96 := e96 96 rfl
      refine want_none rfl ?_
      exact op_move rfl (eval_of e96) (hK _ w1 (Ext.refl _) rfl)
    | 8, ho =>
      obtain rfl := Option.some.inj ho
      have e24 : b.tmps[24]? = some (.bool true) := hmiss 24 rfl
      obtain ⟨vg, gg, eg⟩ := hdep 7 rfl
      have gg : vg = .bool true := gg
      subst gg
      have eg := eg 97 rfl
      refine want_yes rfl rfl eg ?_
      exact op_move rfl (eval_of e24) (hK _ w1 (Ext.refl _) rfl)
    | 9, ho =>
      obtain rfl := Option.some.inj ho
      obtain ⟨v97, g97, e97⟩ := hdep 7 rfl
      have g97 : v97 = .bool true := g97
      subst g97
      have e97 := e97 97 rfl
      obtain ⟨v98, g98, e98⟩ := hdep 8 rfl
      have g98 : v98 = .bool true := g98
      subst g98
      have e98 := e98 98 rfl
      refine want_none rfl ?_
      exact op_run (by unfold execOp; simp [e97, e98, Act.eval, go_sem]) (hK _ w1 (Ext.refl _) rfl)
    | 10, ho =>
      obtain rfl := Option.some.inj ho
      obtain ⟨v99, g99, e99⟩ := hdep 9 rfl
      have g99 : v99 = .bool true := g99
      subst g99
      have e99 := e99 99 rfl
      refine want_none rfl ?_
      exact op_move rfl (eval_of e99) (hK _ w1 (Ext.refl _) rfl)
    | 11, ho =>
      obtain rfl := Option.some.inj ho
      have e10 : b.tmps[10]? = some (.int .i64 k1) := hmiss 10 rfl
      obtain ⟨vg, gg, eg⟩ := hdep 10 rfl
      have gg : vg = .bool true := gg
      subst gg
      have eg := eg 100 rfl
      refine want_yes rfl rfl eg ?_
      exact op_move rfl (eval_of e10) (hK _ w1 (Ext.refl _) rfl)
    | 12, ho =>
      obtain rfl := Option.some.inj ho
      have e12 : b.tmps[12]? = some (.int .i64 k1) := hmiss 12 rfl
      obtain ⟨vg, gg, eg⟩ := hdep 10 rfl
      have gg : vg = .bool true := gg
      subst gg
      have eg := eg 100 rfl
      refine want_yes rfl rfl eg ?_
      exact op_move rfl (eval_of e12) (hK _ w1 (Ext.refl _) rfl)
    | 13, ho =>
      obtain rfl := Option.some.inj ho
      obtain ⟨v101, g101, e101⟩ := hdep 11 rfl
      have g101 : v101 = .int .i64 k1 := g101
      subst g101
      have e101 := e101 101 rfl
      obtain ⟨v102, g102, e102⟩ := hdep 12 rfl
      have g102 : v102 = .int .i64 k1 := g102
      subst g102
      have e102 := e102 102 rfl
      obtain ⟨vg, gg, eg⟩ := hdep 10 rfl
      have gg : vg = .bool true := gg
      subst gg
      have eg := eg 100 rfl
      refine want_yes rfl rfl eg ?_
      exact op_run (by unfold execOp; simp [e101, e102, Act.eval, go_sem]) (hK _ w1 (Ext.refl _) rfl)
    | 14, ho =>
      obtain rfl := Option.some.inj ho
      obtain ⟨v100, g100, e100⟩ := hdep 10 rfl
      have g100 : v100 = .bool true := g100
      subst g100
      have e100 := e100 100 rfl
      obtain ⟨v103, g103, e103⟩ := hdep 13 rfl
      have g103 : v103 = .bool true := g103
      subst g103
      have e103 := e103 103 rfl
      refine want_none rfl ?_
      exact op_run (by unfold execOp; simp [e100, e103, Act.eval, go_sem]) (hK _ w1 (Ext.refl _) rfl)
    | 15, ho =>
      obtain rfl := Option.some.inj ho
      obtain ⟨v104, g104, e104⟩ := hdep 14 rfl
      have g104 : v104 = .bool true := g104
      subst g104
      have e104 := e104 104 rfl
      refine want_none rfl ?_
      exact op_move rfl (eval_of e104) (hK _ w1 (Ext.refl _) rfl)
    | 16, ho =>
      obtain rfl := Option.some.inj ho
      have e11 : b.tmps[11]? = some (.pointer (some ⟨bHP, 0, none⟩)) := hmiss 11 rfl
      obtain ⟨vg, gg, eg⟩ := hdep 15 rfl
      have gg : vg = .bool true := gg
      subst gg
      have eg := eg 105 rfl
      refine want_yes rfl rfl eg ?_
      exact op_loadrow rfl (eval_of e11) (HP.out.ext hx) _ Tryd.underlying24 rfl (by kernel_rfl) (hK _ w1 (Ext.refl _) rfl)
    | 17, ho =>
      obtain rfl := Option.some.inj ho
      have e13 : b.tmps[13]? = some (.pointer (some ⟨bHQ, 0, none⟩)) := hmiss 13 rfl
      obtain ⟨vg, gg, eg⟩ := hdep 15 rfl
      have gg : vg = .bool true := gg
      subst gg
      have eg := eg 105 rfl
      refine want_yes rfl rfl eg ?_
      exact op_loadrow rfl (eval_of e13) (HQ.out.ext hx) _ Tryd.underlying24 rfl (by kernel_rfl) (hK _ w1 (Ext.refl _) rfl)
    | 18, ho =>
      obtain rfl := Option.some.inj ho
      obtain ⟨v106, g106, e106⟩ := hdep 16 rfl
      have g106 : v106 = .agg u1.cells.toArray := g106
      subst g106
      have e106 := e106 106 rfl
      obtain ⟨v107, g107, e107⟩ := hdep 17 rfl
      have g107 : v107 = .agg u1.cells.toArray := g107
      subst g107
      have e107 := e107 107 rfl
      obtain ⟨vg, gg, eg⟩ := hdep 15 rfl
      have gg : vg = .bool true := gg
      subst gg
      have eg := eg 105 rfl
      refine want_yes rfl rfl eg ?_
      exact op_run (by unfold execOp; simp [e106, e107, Act.eval, go_sem, hn1]) (hK _ w1 (Ext.refl _) rfl)
    | 19, ho =>
      obtain rfl := Option.some.inj ho
      obtain ⟨v105, g105, e105⟩ := hdep 15 rfl
      have g105 : v105 = .bool true := g105
      subst g105
      have e105 := e105 105 rfl
      obtain ⟨v108, g108, e108⟩ := hdep 18 rfl
      have g108 : v108 = .bool true := g108
      subst g108
      have e108 := e108 108 rfl
      refine want_none rfl ?_
      exact op_run (by unfold execOp; simp [e105, e108, Act.eval, go_sem]) (hK _ w1 (Ext.refl _) rfl)
    | 20, ho =>
      obtain rfl := Option.some.inj ho
      obtain ⟨v109, g109, e109⟩ := hdep 19 rfl
      have g109 : v109 = .bool true := g109
      subst g109
      have e109 := e109 109 rfl
      refine want_none rfl ?_
      exact op_move rfl (eval_of e109) (hK _ w1 (Ext.refl _) rfl)
    | 21, ho =>
      obtain rfl := Option.some.inj ho
      have e14 : b.tmps[14]? = some (.int .i64 (bf)) := hmiss 14 rfl
      obtain ⟨vg, gg, eg⟩ := hdep 20 rfl
      have gg : vg = .bool true := gg
      subst gg
      have eg := eg 110 rfl
      refine want_yes rfl rfl eg ?_
      exact op_move rfl (eval_of e14) (hK _ w1 (Ext.refl _) rfl)
    | 22, ho =>
      obtain rfl := Option.some.inj ho
      have e16 : b.tmps[16]? = some (.int .i64 (bf)) := hmiss 16 rfl
      obtain ⟨vg, gg, eg⟩ := hdep 20 rfl
      have gg : vg = .bool true := gg
      subst gg
      have eg := eg 110 rfl
      refine want_yes rfl rfl eg ?_
      exact op_move rfl (eval_of e16) (hK _ w1 (Ext.refl _) rfl)
    | 23, ho =>
      obtain rfl := Option.some.inj ho
      obtain ⟨v111, g111, e111⟩ := hdep 21 rfl
      have g111 : v111 = .int .i64 (bf) := g111
      subst g111
      have e111 := e111 111 rfl
      obtain ⟨v112, g112, e112⟩ := hdep 22 rfl
      have g112 : v112 = .int .i64 (bf) := g112
      subst g112
      have e112 := e112 112 rfl
      obtain ⟨vg, gg, eg⟩ := hdep 20 rfl
      have gg : vg = .bool true := gg
      subst gg
      have eg := eg 110 rfl
      refine want_yes rfl rfl eg ?_
      exact op_run (by unfold execOp; simp [e111, e112, Act.eval, go_sem]) (hK _ w1 (Ext.refl _) rfl)
    | 24, ho =>
      obtain rfl := Option.some.inj ho
      obtain ⟨v110, g110, e110⟩ := hdep 20 rfl
      have g110 : v110 = .bool true := g110
      subst g110
      have e110 := e110 110 rfl
      obtain ⟨v113, g113, e113⟩ := hdep 23 rfl
      have g113 : v113 = .bool true := g113
      subst g113
      have e113 := e113 113 rfl
      refine want_none rfl ?_
      exact op_run (by unfold execOp; simp [e110, e113, Act.eval, go_sem]) (hK _ w1 (Ext.refl _) rfl)
    | 25, ho =>
      obtain rfl := Option.some.inj ho
      obtain ⟨v114, g114, e114⟩ := hdep 24 rfl
      have g114 : v114 = .bool true := g114
      subst g114
      have e114 := e114 114 rfl
      refine want_none rfl ?_
      exact op_move rfl (eval_of e114) (hK _ w1 (Ext.refl _) rfl)
    | 26, ho =>
      obtain rfl := Option.some.inj ho
      have e15 : b.tmps[15]? = some (.bool (decide (0 < bf))) := hmiss 15 rfl
      obtain ⟨vg, gg, eg⟩ := hdep 25 rfl
      have gg : vg = .bool true := gg
      subst gg
      have eg := eg 115 rfl
      refine want_yes rfl rfl eg ?_
      exact op_move rfl (eval_of e15) (hK _ w1 (Ext.refl _) rfl)
    | 27, ho =>
      obtain rfl := Option.some.inj ho
      have e17 : b.tmps[17]? = some (.bool (decide (0 < bf))) := hmiss 17 rfl
      obtain ⟨vg, gg, eg⟩ := hdep 25 rfl
      have gg : vg = .bool true := gg
      subst gg
      have eg := eg 115 rfl
      refine want_yes rfl rfl eg ?_
      exact op_move rfl (eval_of e17) (hK _ w1 (Ext.refl _) rfl)
    | 28, ho =>
      obtain rfl := Option.some.inj ho
      obtain ⟨v116, g116, e116⟩ := hdep 26 rfl
      have g116 : v116 = .bool (decide (0 < bf)) := g116
      subst g116
      have e116 := e116 116 rfl
      obtain ⟨v117, g117, e117⟩ := hdep 27 rfl
      have g117 : v117 = .bool (decide (0 < bf)) := g117
      subst g117
      have e117 := e117 117 rfl
      obtain ⟨vg, gg, eg⟩ := hdep 25 rfl
      have gg : vg = .bool true := gg
      subst gg
      have eg := eg 115 rfl
      refine want_yes rfl rfl eg ?_
      exact op_run (by unfold execOp; simp [e116, e117, Act.eval, go_sem]) (hK _ w1 (Ext.refl _) rfl)
    | 29, ho =>
      obtain rfl := Option.some.inj ho
      obtain ⟨v115, g115, e115⟩ := hdep 25 rfl
      have g115 : v115 = .bool true := g115
      subst g115
      have e115 := e115 115 rfl
      obtain ⟨v118, g118, e118⟩ := hdep 28 rfl
      have g118 : v118 = .bool true := g118
      subst g118
      have e118 := e118 118 rfl
      refine want_none rfl ?_
      exact op_run (by unfold execOp; simp [e115, e118, Act.eval, go_sem]) (hK _ w1 (Ext.refl _) rfl)
    | 30, ho =>
      obtain rfl := Option.some.inj ho
      obtain ⟨v119, g119, e119⟩ := hdep 29 rfl
      have g119 : v119 = .bool true := g119
      subst g119
      have e119 := e119 119 rfl
      refine want_none rfl ?_
      exact op_move rfl (eval_of e119) (hK _ w1 (Ext.refl _) rfl)
    | 31, ho =>
      obtain rfl := Option.some.inj ho
      have e18 : b.tmps[18]? = some (.int .i64 (bt)) := hmiss 18 rfl
      obtain ⟨vg, gg, eg⟩ := hdep 30 rfl
      have gg : vg = .bool true := gg
      subst gg
      have eg := eg 120 rfl
      refine want_yes rfl rfl eg ?_
      exact op_move rfl (eval_of e18) (hK _ w1 (Ext.refl _) rfl)
    | 32, ho =>
      obtain rfl := Option.some.inj ho
      have e20 : b.tmps[20]? = some (.int .i64 (bt)) := hmiss 20 rfl
      obtain ⟨vg, gg, eg⟩ := hdep 30 rfl
      have gg : vg = .bool true := gg
      subst gg
      have eg := eg 120 rfl
      refine want_yes rfl rfl eg ?_
      exact op_move rfl (eval_of e20) (hK _ w1 (Ext.refl _) rfl)
    | 33, ho =>
      obtain rfl := Option.some.inj ho
      obtain ⟨v121, g121, e121⟩ := hdep 31 rfl
      have g121 : v121 = .int .i64 (bt) := g121
      subst g121
      have e121 := e121 121 rfl
      obtain ⟨v122, g122, e122⟩ := hdep 32 rfl
      have g122 : v122 = .int .i64 (bt) := g122
      subst g122
      have e122 := e122 122 rfl
      obtain ⟨vg, gg, eg⟩ := hdep 30 rfl
      have gg : vg = .bool true := gg
      subst gg
      have eg := eg 120 rfl
      refine want_yes rfl rfl eg ?_
      exact op_run (by unfold execOp; simp [e121, e122, Act.eval, go_sem]) (hK _ w1 (Ext.refl _) rfl)
    | 34, ho =>
      obtain rfl := Option.some.inj ho
      obtain ⟨v120, g120, e120⟩ := hdep 30 rfl
      have g120 : v120 = .bool true := g120
      subst g120
      have e120 := e120 120 rfl
      obtain ⟨v123, g123, e123⟩ := hdep 33 rfl
      have g123 : v123 = .bool true := g123
      subst g123
      have e123 := e123 123 rfl
      refine want_none rfl ?_
      exact op_run (by unfold execOp; simp [e120, e123, Act.eval, go_sem]) (hK _ w1 (Ext.refl _) rfl)
    | 35, ho =>
      obtain rfl := Option.some.inj ho
      obtain ⟨v124, g124, e124⟩ := hdep 34 rfl
      have g124 : v124 = .bool true := g124
      subst g124
      have e124 := e124 124 rfl
      refine want_none rfl ?_
      exact op_move rfl (eval_of e124) (hK _ w1 (Ext.refl _) rfl)
    | 36, ho =>
      obtain rfl := Option.some.inj ho
      have e19 : b.tmps[19]? = some (.bool (decide (0 < bt))) := hmiss 19 rfl
      obtain ⟨vg, gg, eg⟩ := hdep 35 rfl
      have gg : vg = .bool true := gg
      subst gg
      have eg := eg 125 rfl
      refine want_yes rfl rfl eg ?_
      exact op_move rfl (eval_of e19) (hK _ w1 (Ext.refl _) rfl)
    | 37, ho =>
      obtain rfl := Option.some.inj ho
      have e21 : b.tmps[21]? = some (.bool (decide (0 < bt))) := hmiss 21 rfl
      obtain ⟨vg, gg, eg⟩ := hdep 35 rfl
      have gg : vg = .bool true := gg
      subst gg
      have eg := eg 125 rfl
      refine want_yes rfl rfl eg ?_
      exact op_move rfl (eval_of e21) (hK _ w1 (Ext.refl _) rfl)
    | 38, ho =>
      obtain rfl := Option.some.inj ho
      obtain ⟨v126, g126, e126⟩ := hdep 36 rfl
      have g126 : v126 = .bool (decide (0 < bt)) := g126
      subst g126
      have e126 := e126 126 rfl
      obtain ⟨v127, g127, e127⟩ := hdep 37 rfl
      have g127 : v127 = .bool (decide (0 < bt)) := g127
      subst g127
      have e127 := e127 127 rfl
      obtain ⟨vg, gg, eg⟩ := hdep 35 rfl
      have gg : vg = .bool true := gg
      subst gg
      have eg := eg 125 rfl
      refine want_yes rfl rfl eg ?_
      exact op_run (by unfold execOp; simp [e126, e127, Act.eval, go_sem]) (hK _ w1 (Ext.refl _) rfl)
    | 39, ho =>
      obtain rfl := Option.some.inj ho
      obtain ⟨v125, g125, e125⟩ := hdep 35 rfl
      have g125 : v125 = .bool true := g125
      subst g125
      have e125 := e125 125 rfl
      obtain ⟨v128, g128, e128⟩ := hdep 38 rfl
      have g128 : v128 = .bool true := g128
      subst g128
      have e128 := e128 128 rfl
      refine want_none rfl ?_
      exact op_run (by unfold execOp; simp [e125, e128, Act.eval, go_sem]) (hK _ w1 (Ext.refl _) rfl)
    | 40, ho =>
      obtain rfl := Option.some.inj ho
      obtain ⟨v129, g129, e129⟩ := hdep 39 rfl
      have g129 : v129 = .bool true := g129
      subst g129
      have e129 := e129 129 rfl
      refine want_none rfl ?_
      exact op_move rfl (eval_of e129) (hK _ w1 (Ext.refl _) rfl)
    | 41, ho =>
      obtain rfl := Option.some.inj ho
      have e0 : b.tmps[0]? = some (.slice A l.length c) := hmiss 0 rfl
      obtain ⟨vg, gg, eg⟩ := hdep 40 rfl
      have gg : vg = .bool true := gg
      subst gg
      have eg := eg 130 rfl
      refine want_yes rfl rfl eg ?_
      exact op_move rfl (eval_of e0) (hK _ w1 (Ext.refl _) rfl)
    | 42, ho =>
      obtain rfl := Option.some.inj ho
      have e1 : b.tmps[1]? = some (.slice A2 m.length c2) := hmiss 1 rfl
      obtain ⟨vg, gg, eg⟩ := hdep 40 rfl
      have gg : vg = .bool true := gg
      subst gg
      have eg := eg 130 rfl
      refine want_yes rfl rfl eg ?_
      exact op_move rfl (eval_of e1) (hK _ w1 (Ext.refl _) rfl)
    | 43, ho =>
      obtain rfl := Option.some.inj ho
      obtain ⟨v131, g131, e131⟩ := hdep 41 rfl
      have g131 : v131 = .slice A l.length c := g131
      subst g131
      have e131 := e131 131 rfl
      obtain ⟨v132, g132, e132⟩ := hdep 42 rfl
      have g132 : v132 = .slice A2 m.length c2 := g132
      subst g132
      have e132 := e132 132 rfl
      obtain ⟨vg, gg, eg⟩ := hdep 40 rfl
      have gg : vg = .bool true := gg
      subst gg
      have eg := eg 130 rfl
      refine want_yes rfl rfl eg ?_
      have hc : Calls Tryd.prog 23 #[.slice A l.length c, .slice A2 m.length c2] w1 fun e w' => ∃ v, e = .returned v ∧ Ext w1 w' ∧ (v = .bool (decide (l = m))) := (Same_any l m A A2 c c2 w1 (HL.out.ext hx) (HM.out.ext hx) (by have := HLN.out; omega) (by have := HMN.out; omega)).mono fun e w2 ⟨h1, h2⟩ => ⟨_, h1, h2, rfl⟩
      exact op_call (G := fun v w' => v = .bool (decide (l = m))) rfl (by simp [eval_of e131, eval_of e132]) (fun _ _ => by kernel_rfl) hc (fun v w' h1 h2 => hK v w' h1 h2)
    | 44, ho =>
      obtain rfl := Option.some.inj ho
      have e0 : b.tmps[0]? = some (.slice A l.length c) := hmiss 0 rfl
      obtain ⟨vg, gg, eg⟩ := hdep 40 rfl
      have gg : vg = .bool true := gg
      subst gg
      have eg := eg 130 rfl
      refine want_yes rfl rfl eg ?_
      exact op_move rfl (eval_of e0) (hK _ w1 (Ext.refl _) rfl)
    | 45, ho =>
      obtain rfl := Option.some.inj ho
      have e1 : b.tmps[1]? = some (.slice A2 m.length c2) := hmiss 1 rfl
      obtain ⟨vg, gg, eg⟩ := hdep 40 rfl
      have gg : vg = .bool true := gg
      subst gg
      have eg := eg 130 rfl
      refine want_yes rfl rfl eg ?_
      exact op_move rfl (eval_of e1) (hK _ w1 (Ext.refl _) rfl)
    | 46, ho =>
      obtain rfl := Option.some.inj ho
      obtain ⟨v134, g134, e134⟩ := hdep 44 rfl
      have g134 : v134 = .slice A l.length c := g134
      subst g134
      have e134 := e134 134 rfl
      obtain ⟨v135, g135, e135⟩ := hdep 45 rfl
      have g135 : v135 = .slice A2 m.length c2 := g135
      subst g135
      have e135 := e135 135 rfl
      obtain ⟨vg, gg, eg⟩ := hdep 40 rfl
      have gg : vg = .bool true := gg
      subst gg
      have eg := eg 130 rfl
      refine want_yes rfl rfl eg ?_
      have hc : Calls Tryd.prog 15 #[.slice A l.length c, .slice A2 m.length c2] w1 fun e w' => ∃ v, e = .returned v ∧ Ext w1 w' ∧ (v = .bool (decide (l = m))) := (refSame_any A A2 c c2 l m w1 (HL.out.ext hx) (HM.out.ext hx) (by have := HLN.out; omega)).mono fun e w2 ⟨h1, h2⟩ => ⟨_, h1, h2, rfl⟩
      exact op_call (G := fun v w' => v = .bool (decide (l = m))) rfl (by simp [eval_of e134, eval_of e135]) (fun _ _ => by kernel_rfl) hc (fun v w' h1 h2 => hK v w' h1 h2)
    | 47, ho =>
      obtain rfl := Option.some.inj ho
      obtain ⟨v133, g133, e133⟩ := hdep 43 rfl
      obtain rfl := g133
      have e133 := e133 133 rfl
      obtain ⟨v136, g136, e136⟩ := hdep 46 rfl
      obtain rfl := g136
      have e136 := e136 136 rfl
      obtain ⟨vg, gg, eg⟩ := hdep 40 rfl
      have gg : vg = .bool true := gg
      subst gg
      have eg := eg 130 rfl
      refine want_yes rfl rfl eg ?_
      exact op_run (by unfold execOp; simp [e133, e136, Act.eval, go_sem]) (hK _ w1 (Ext.refl _) rfl)
    | 48, ho =>
      obtain rfl := Option.some.inj ho
      obtain ⟨v130, g130, e130⟩ := hdep 40 rfl
      have g130 : v130 = .bool true := g130
      subst g130
      have e130 := e130 130 rfl
      obtain ⟨v137, g137, e137⟩ := hdep 47 rfl
      have g137 : v137 = .bool true := g137
      subst g137
      have e137 := e137 137 rfl
      refine want_none rfl ?_
      exact op_run (by unfold execOp; simp [e130, e137, Act.eval, go_sem]) (hK _ w1 (Ext.refl _) rfl)
    | 49, ho =>
      obtain rfl := Option.some.inj ho
      obtain ⟨v138, g138, e138⟩ := hdep 48 rfl
      have g138 : v138 = .bool true := g138
      subst g138
      have e138 := e138 138 rfl
      refine want_none rfl ?_
      exact op_move rfl (eval_of e138) (hK _ w1 (Ext.refl _) rfl)
    | 50, ho =>
      obtain rfl := Option.some.inj ho
      have e7 : b.tmps[7]? = some (.pointer (some ⟨w.heap.size + 1, 0, none⟩)) := hmiss 7 rfl
      obtain ⟨vg, gg, eg⟩ := hdep 49 rfl
      have gg : vg = .bool true := gg
      subst gg
      have eg := eg 139 rfl
      refine want_yes rfl rfl eg ?_
      exact op_loadrow rfl (eval_of e7) (HE.out.ext hx) _ Tryd.underlying32 rfl (by kernel_rfl) (hK _ w1 (Ext.refl _) rfl)
    | 51, ho =>
      obtain rfl := Option.some.inj ho
      obtain ⟨v140, g140, e140⟩ := hdep 50 rfl
      have g140 : v140 = .agg x.cells.toArray := g140
      subst g140
      have e140 := e140 140 rfl
      obtain ⟨vg, gg, eg⟩ := hdep 49 rfl
      have gg : vg = .bool true := gg
      subst gg
      have eg := eg 139 rfl
      refine want_yes rfl rfl eg ?_
      have hc : Calls Tryd.prog 24 #[.agg x.cells.toArray] w1 fun e w' => ∃ v, e = .returned v ∧ Ext w1 w' ∧ (v = .agg (nmE x).cells.toArray) := (Name_any x w1).mono fun e w2 ⟨h1, h2⟩ => ⟨_, h1, h2, rfl⟩
      exact op_call (G := fun v w' => v = .agg (nmE x).cells.toArray) rfl (by simp [eval_of e140]) (fun _ _ => by kernel_rfl) hc (fun v w' h1 h2 => hK v w' h1 h2)
    | 52, ho =>
      obtain rfl := Option.some.inj ho
      have e7 : b.tmps[7]? = some (.pointer (some ⟨w.heap.size + 1, 0, none⟩)) := hmiss 7 rfl
      obtain ⟨vg, gg, eg⟩ := hdep 49 rfl
      have gg : vg = .bool true := gg
      subst gg
      have eg := eg 139 rfl
      refine want_yes rfl rfl eg ?_
      exact op_loadrow rfl (eval_of e7) (HE.out.ext hx) _ Tryd.underlying32 rfl (by kernel_rfl) (hK _ w1 (Ext.refl _) rfl)
    | 53, ho =>
      obtain rfl := Option.some.inj ho
      obtain ⟨v142, g142, e142⟩ := hdep 52 rfl
      have g142 : v142 = .agg x.cells.toArray := g142
      subst g142
      have e142 := e142 142 rfl
      obtain ⟨vg, gg, eg⟩ := hdep 49 rfl
      have gg : vg = .bool true := gg
      subst gg
      have eg := eg 139 rfl
      refine want_yes rfl rfl eg ?_
      have hc : Calls Tryd.prog 25 #[.agg x.cells.toArray] w1 fun e w' => ∃ v, e = .returned v ∧ Ext w1 w' ∧ (v = .agg (nmE x).cells.toArray) := (refName_any x w1).mono fun e w2 ⟨h1, h2⟩ => ⟨_, h1, h2, rfl⟩
      exact op_call (G := fun v w' => v = .agg (nmE x).cells.toArray) rfl (by simp [eval_of e142]) (fun _ _ => by kernel_rfl) hc (fun v w' h1 h2 => hK v w' h1 h2)
    | 54, ho =>
      obtain rfl := Option.some.inj ho
      obtain ⟨v141, g141, e141⟩ := hdep 51 rfl
      obtain rfl := g141
      have e141 := e141 141 rfl
      obtain ⟨v143, g143, e143⟩ := hdep 53 rfl
      obtain rfl := g143
      have e143 := e143 143 rfl
      obtain ⟨vg, gg, eg⟩ := hdep 49 rfl
      have gg : vg = .bool true := gg
      subst gg
      have eg := eg 139 rfl
      refine want_yes rfl rfl eg ?_
      exact op_run (by unfold execOp; simp [e141, e143, Act.eval, go_sem, hn2]) (hK _ w1 (Ext.refl _) rfl)
    | 55, ho =>
      obtain rfl := Option.some.inj ho
      obtain ⟨v139, g139, e139⟩ := hdep 49 rfl
      have g139 : v139 = .bool true := g139
      subst g139
      have e139 := e139 139 rfl
      obtain ⟨v144, g144, e144⟩ := hdep 54 rfl
      have g144 : v144 = .bool true := g144
      subst g144
      have e144 := e144 144 rfl
      refine want_none rfl ?_
      exact op_run (by unfold execOp; simp [e139, e144, Act.eval, go_sem]) (hK _ w1 (Ext.refl _) rfl)
    | 56, ho =>
      obtain rfl := Option.some.inj ho
      obtain ⟨v145, g145, e145⟩ := hdep 55 rfl
      have g145 : v145 = .bool true := g145
      subst g145
      have e145 := e145 145 rfl
      refine want_none rfl ?_
      exact op_assign rfl (eval_of e145) (hK _ w1 (Ext.refl _) rfl)
    | i + 57, ho => cases ho
  · intro V w9 hx hg
    have g0 : V 0 = .bool true := hg 0 (by decide)
    have g1 : V 1 = .bool true := hg 1 (by decide)
    have g2 : V 2 = .bool true := hg 2 (by decide)
    have g3 : V 3 = .bool true := hg 3 (by decide)
    have g4 : V 4 = .bool true := hg 4 (by decide)
    have g5 : V 5 = .bool true := hg 5 (by decide)
    have g6 : V 6 = .bool true := hg 6 (by decide)
    have g7 : V 7 = .bool true := hg 7 (by decide)
    have g8 : V 8 = .bool true := hg 8 (by decide)
    have g9 : V 9 = .bool true := hg 9 (by decide)
    have g10 : V 10 = .bool true := hg 10 (by decide)
    have g11 : V 11 = .int .i64 k1 := hg 11 (by decide)
    have g12 : V 12 = .int .i64 k1 := hg 12 (by decide)
    have g13 : V 13 = .bool true := hg 13 (by decide)
    have g14 : V 14 = .bool true := hg 14 (by decide)
    have g15 : V 15 = .bool true := hg 15 (by decide)
    have g16 : V 16 = .agg u1.cells.toArray := hg 16 (by decide)
    have g17 : V 17 = .agg u1.cells.toArray := hg 17 (by decide)
    have g18 : V 18 = .bool true := hg 18 (by decide)
    have g19 : V 19 = .bool true := hg 19 (by decide)
    have g20 : V 20 = .bool true := hg 20 (by decide)
    have g21 : V 21 = .int .i64 (bf) := hg 21 (by decide)
    have g22 : V 22 = .int .i64 (bf) := hg 22 (by decide)
    have g23 : V 23 = .bool true := hg 23 (by decide)
    have g24 : V 24 = .bool true := hg 24 (by decide)
    have g25 : V 25 = .bool true := hg 25 (by decide)
    have g26 : V 26 = .bool (decide (0 < bf)) := hg 26 (by decide)
    have g27 : V 27 = .bool (decide (0 < bf)) := hg 27 (by decide)
    have g28 : V 28 = .bool true := hg 28 (by decide)
    have g29 : V 29 = .bool true := hg 29 (by decide)
    have g30 : V 30 = .bool true := hg 30 (by decide)
    have g31 : V 31 = .int .i64 (bt) := hg 31 (by decide)
    have g32 : V 32 = .int .i64 (bt) := hg 32 (by decide)
    have g33 : V 33 = .bool true := hg 33 (by decide)
    have g34 : V 34 = .bool true := hg 34 (by decide)
    have g35 : V 35 = .bool true := hg 35 (by decide)
    have g36 : V 36 = .bool (decide (0 < bt)) := hg 36 (by decide)
    have g37 : V 37 = .bool (decide (0 < bt)) := hg 37 (by decide)
    have g38 : V 38 = .bool true := hg 38 (by decide)
    have g39 : V 39 = .bool true := hg 39 (by decide)
    have g40 : V 40 = .bool true := hg 40 (by decide)
    have g41 : V 41 = .slice A l.length c := hg 41 (by decide)
    have g42 : V 42 = .slice A2 m.length c2 := hg 42 (by decide)
    have g44 : V 44 = .slice A l.length c := hg 44 (by decide)
    have g45 : V 45 = .slice A2 m.length c2 := hg 45 (by decide)
    have g47 : V 47 = .bool true := hg 47 (by decide)
    have g48 : V 48 = .bool true := hg 48 (by decide)
    have g49 : V 49 = .bool true := hg 49 (by decide)
    have g50 : V 50 = .agg x.cells.toArray := hg 50 (by decide)
    have g52 : V 52 = .agg x.cells.toArray := hg 52 (by decide)
    have g54 : V 54 = .bool true := hg 54 (by decide)
    have g55 : V 55 = .bool true := hg 55 (by decide)
    have g56 : V 56 = .bool true := hg 56 (by decide)
    have g43 := hg 43 (by decide)
    have g46 := hg 46 (by decide)
    have g51 := hg 51 (by decide)
    have g53 := hg 53 (by decide)
    simp only [List.length_cons, List.length_nil, fillAllN, dstOf, Act.put, List.getElem?_toArray, List.getElem?_cons_zero, List.getElem?_cons_succ, Option.bind_some, g0, g1, g2, g3, g4, g5, g6, g7, g8, g9, g10, g11, g12, g13, g14, g15, g16, g17, g18, g19, g20, g21, g22, g23, g24, g25, g26, g27, g28, g29, g30, g31, g32, g33, g34, g35, g36, g37, g38, g39, g40, g41, g42, g44, g45, g47, g48, g49, g50, g52, g54, g55, g56, List.setIfInBounds_toArray, List.set_cons_zero, List.set_cons_succ]
    clear g0 g1 g2 g3 g4 g5 g6 g7 g8 g9 g10 g11 g12 g13 g14 g15 g16 g17 g18 g19 g20 g21 g22 g23 g24 g25 g26 g27 g28 g29 g30 g31 g32 g33 g34 g35 g36 g37 g38 g39 g40 g41 g42 g44 g45 g47 g48 g49 g50 g52 g54 g55 g56 hg
    go_wp2_with fail
    go_ret
    exact ⟨rfl, HX.out.trans hx⟩
end Go.Proofs.YtcfebfblmmbeaaaDoor

/- HistoryMatchesSpec: for every input the law returns true, and each argument reads as it did. No condition. -/
namespace Go.Proofs.YtcfebfblmmbeaaaDoor
open Go Go.RowKit Go.ChangeShapes Go.WideShapes Go.ChangeAt

set_option maxHeartbeats 1600000 in
set_option maxRecDepth 100000 in
theorem historyMatchesSpec_lifted (os : Os) (started : os.Started) (H : Type) (enc : TypeId × Value → H) :
    ReturnsInHanded {} Tryd.checked os 3 .any (fun w args => (Rows.historyMatchesSpecSpec.pre enc Tryd.prog Tryd.f3 Rows.historyMatchesSpecRow.domain false w args ∧ laidMetH Tryd.prog laidL w) ∧ sizedMet enc Tryd.prog Tryd.f3 (OpenSpec.ofChange Rows.historyMatchesSpecSpec) false w args) (Rows.historyMatchesSpecSpec.post enc Tryd.prog Tryd.f3 false true false false) := by
  refine returnsInHanded_of_change_and (C := Tryd.checked) (X := fun w _ => laidMetH Tryd.prog laidL w) (fun _ _ _ hh h => h.of_heap hh) own_ started (by kernel_rfl) Tryd.func3
    (ChangeSpec.witness_shaped (enc := enc) (C := Tryd.checked) (os := os) (X := fun w _ => laidMetH Tryd.prog laidL w) false (World.laidAll Tryd.prog os laidL) #[.slice none 0 0, .slice none 0 0, .agg #[.int .i64 0, .int .i64 0], .agg #[.int .i64 0, .int .i64 0, .int .i64 0, .int .i64 0, .int .i64 0, .int .i64 0, .int .i64 0, .int .i64 0, .int .i64 0, .int .i64 0, .int .i64 0, .int .i64 0, .int .i64 0, .int .i64 0, .int .i64 0, .int .i64 0, .int .i64 0]] 8 (World.laidAll_os _ _ _) (World.shaped_of_ZipB (by kernel_rfl) (by kernel_rfl)) (by kernel_rfl) (by kernel_rfl) (by kernel_rfl)
      (by rw [MakeChecks.laidMetH_plain _ _ _ (by kernel_rfl)]; exact laidMet_laidAll _ (by kernel_rfl) (by kernel_rfl))) ?_
  intro W base args ds gs before hval0 hW hcnd _ hLd _
  have hval : ∀ (j : Nat) t v, Tryd.f3.params[j]? = some t → args[j]? = some v → Value.okWide Tryd.prog W .any base t v := hval0
  have hLd := laid_of hLd
  have hW' := hW
  obtain ⟨p, q, hA0, hV, rfl, hfz, hnd⟩ := hW
  have hA : DataW.TrodAll enc Tryd.prog W 0 (fun _ => true) true Tryd.f3.params.toList args.toList ds p := hA0
  have hAll := hA
  rw [Tryd.params3] at hA hval
  obtain ⟨v0, vs0, d0, ds0, p0, q0, ha, rfl, rfl, h0, r0⟩ := trodAll_cons hA
  obtain ⟨v1, vs1, d1, ds1, p1, q1, rfl, rfl, rfl, h1, r1⟩ := trodAll_cons r0
  obtain ⟨v2, vs2, d2, ds2, p2, q2, rfl, rfl, rfl, h2, r2⟩ := trodAll_cons r1
  obtain ⟨v3, vs3, d3, ds3, p3, q3, rfl, rfl, rfl, h3, r3⟩ := trodAll_cons r2
  obtain ⟨rfl, rfl, rfl⟩ := trodAll_nil r3
  obtain ⟨rfl, rfl⟩ := trodVars_none hV
  have hargs : args = #[v0, v1, v2, v3] := by apply Array.ext'; exact ha
  subst hargs
  obtain ⟨A, c, l, rfl, hs, _⟩ := read_Eds (hval 0 _ _ rfl rfl) h0
  obtain ⟨A2, c2, m, rfl, hs2, _⟩ := read_Eds (hval 1 _ _ rfl rfl) h1
  obtain ⟨n, rfl, _⟩ := read_Nm (hval 2 _ _ rfl rfl) h2
  obtain ⟨x, rfl, _⟩ := read_Ed (hval 3 _ _ rfl rfl) h3
  refine (HistoryMatchesSpec_any A A2 c c2 l m n x W hs hs2 hLd).mono fun e W' ⟨he, hx⟩ => ?_
  subst he
  have hlt : ∀ x, x ∈ (p0 ++ (p1 ++ (p2 ++ (p3 ++ [])))) → x.block < W.heap.size := fun x hx2 => hW'.lt x (by simpa using hx2)
  exact ⟨_, rfl, _, _, _, [], _, [], hW', trodAll_mk1 (shut_bool Tryd.underlying4 true), args_below laidOut_ _ _ _ _ W' (by rw [Tryd.params3]; intro t ht; simp at ht; rcases ht with rfl | rfl | rfl <;> exact ⟨by kernel_rfl, of_decide_eq_true (by kernel_rfl)⟩) hAll hx.below hlt, rfl, hx.below.frame _, fun h => by cases h⟩

theorem historyMatchesSpec_row : Rows.HistoryMatchesSpecSaid :=
  OpenClaim.holds_of_wide 3 Tryd.f3 rfl rfl rfl rfl rfl rfl rfl ⟨rfl, rfl, rfl, rfl, rfl⟩ rfl rfl rfl rfl rfl (by kernel_rfl) Tryd.func3 (by kernel_rfl)
    (of_decide_eq_true (by kernel_rfl)) (by unfold Func.isWrapper; rw [if_neg (of_decide_eq_false (by kernel_rfl))]; exact ⟨rfl, rfl⟩)
    (fun os started H enc _ => historyMatchesSpec_lifted os started H enc)

theorem historyMatchesSpec_holds : Rows.HistoryMatchesSpecCardSaid :=
  Claim7.holds_tied_plain_at .later [] [.data] true Rows.historyMatchesSpecCard.stood.harness false
    historyMatchesSpec_row (fun _ h => by cases h) (by kernel_rfl) (fun _ h => by cases h) historyMatchesSpec_row_tie rfl ⟨rfl, rfl⟩ (by kernel_rfl) rfl
    (fun f fn hf hfn => by
      obtain rfl : f = 3 := Option.some.inj ((show Tryd.prog.funcNamed "voxel/voxellaw27.HistoryMatchesSpec" = some 3 by kernel_rfl).symm.trans hf) |>.symm
      obtain rfl : fn = Tryd.f3 := (Option.some.inj (Tryd.func3.symm.trans hfn)).symm
      exact ⟨by kernel_rfl, fun j t ht => by
        rw [Tryd.params3] at ht
        have hm : t ∈ [22, 22, 24, 32] := by simpa using Array.mem_of_getElem? ht
        have hall : ([22, 22, 24, 32].all fun u => !Tryd.prog.wantsStandIn u) = true := by kernel_rfl
        exact (show Tryd.prog.wantsStandIn t = false by simpa using List.all_eq_true.1 hall t hm)⟩)
    (by kernel_rfl)
end Go.Proofs.YtcfebfblmmbeaaaDoor
