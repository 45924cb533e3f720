/- YtcfebfblmmbeaaaDoorSnh · YtcfebfblmmbeaaaDoorHg · YtcfebfblmmbeaaaDoorHh · YtcfebfblmmbeaaaDoorFlw · YtcfebfblmmbeaaaDoorReach -/
import Derived.SizedLaws
import Derived.Test.YtcfebfblmmbeaaaDoorZa8
/- sanity. -/
namespace Go.Proofs.YtcfebfblmmbeaaaDoor
open Go Go.RowKit

theorem rows_len17 (l : List Ed) : ∀ x, x ∈ rowsE l → x.length = 17 := fun x hx => (rowsE_rwk l).len x hx
theorem rows_len2 (l : List Nm) : ∀ x, x ∈ rowsN l → x.length = 2 := fun x hx => (rowsN_rwk l).len x hx
set_option maxRecDepth 100000 in
set_option maxHeartbeats 16000000 in
theorem sanity_any (w : World) (hR : RowsIn w) :
    Calls Tryd.prog 8 #[] w fun e w' => e = .returned (.bool true) ∧ Ext w w' := by
  have hm := mixed
  have HR := Lib.hid hR
  clear hR
  go_enter Tryd.func8, Tryd.ntmps8
  have HXl := Lib.hid (Ext.refl w)
  go_upto_region 2 with (first
      | (go_at_call 28; refine (lawundo_any _ _ _ (by decide) _).mono ?_; rintro e wd ⟨rfl, xx⟩; have HXl := Lib.hid (HXl.out.trans xx); clear xx)
      | (go_at_call 29; refine (lawbox_any _ _ _ (by decide) _).mono ?_; rintro e wd ⟨rfl, xx⟩; have HXl := Lib.hid (HXl.out.trans xx); clear xx)
      | (refine wpList_buildRows rfl 22 32 5 _ rfl 17 (by decide) (rowsE sl0) (rows_len17 _) rfl (by decide) (by decide) (by kernel_rfl) Tryd.underlying22 (by kernel_rfl) (by kernel_rfl) ?_))
  have HL := Lib.hid (svE_lit wd sl0 (by decide))
  have HX := Lib.hid (HXl.out.alloc (.cells (rowsE sl0).flatten.toArray 32))
  clear HXl
  obtain ⟨W1, hW⟩ : ∃ W, W = wd.alloc (.cells (rowsE sl0).flatten.toArray 32) := ⟨_, rfl⟩
  obtain ⟨AL, hAL⟩ : ∃ A, A = (some ⟨wd.heap.size, 0, none⟩ : Option Addr) := ⟨_, rfl⟩
  rw [← hW, ← hAL] at HL
  rw [← hW] at HX
  rw [← hW, ← hAL]
  clear hW hAL
  have HL := Lib.hid (show Sv W1 W1.heap.size 17 AL 5 (rowsE sl0) from HL.out)
  obtain ⟨WZ, hWZ⟩ : ∃ W, W = W1.alloc (.cells #[] 32) := ⟨_, rfl⟩
  have HZ := Lib.hid (show WZ.ownsRow W1.heap.size 32 17 (.slice (some ⟨W1.heap.size, 0, none⟩) 0 0) 0 (rowsE []).flatten by rw [hWZ]; exact own_zero W1 _ 17)
  have HXl := Lib.hid (show Ext W1 WZ by rw [hWZ]; exact (Ext.refl _).alloc _)
  have HLZ := Lib.hid (HL.out.ext HXl.out)
  have HWZ := Lib.hid hWZ
  clear hWZ
  go_upto_region 3 with (first
      | (at_builtin; rw [← HWZ.out]; refine wpList_append_E rfl (.tmp 27) (.tmp 28) rfl W1.heap.size _ [] rfl 0 rfl HZ.out AL 5 5 sl0 rfl rfl HLZ.out 5 rfl (by decide) HXl.out.size ?_; intro A1 c1 WA ho1 hg1; have HO1 := Lib.hid ho1; have HXl := Lib.hid (HXl.out.own HZ.out hg1 (Nat.le_refl _)); clear ho1 hg1)
      | (go_at_call 28; refine (lawundo_any _ _ _ (by decide) WA).mono ?_; rintro e WB ⟨rfl, xB⟩; have HSX := Lib.hid (svE_lit WB [undoE 1 4 3] (by decide)); have HXB := Lib.hid (xB.alloc (.cells (rowsE [undoE 1 4 3]).flatten.toArray 32)); have HO2 := Lib.hid (own_ext HO1.out HXB.out); have HXl := Lib.hid (HXl.out.trans HXB.out); clear xB)
      | (refine wpList_buildRows rfl 22 32 1 _ rfl 17 (by decide) (rowsE [undoE 1 4 3]) (rows_len17 _) rfl (by decide) (by decide) (by kernel_rfl) Tryd.underlying22 (by kernel_rfl) (by kernel_rfl) ?_)
      | (at_builtin; refine wpList_append_E rfl (.tmp 29) (.tmp 31) rfl W1.heap.size _ ([] ++ sl0) rfl 5 rfl HO2.out _ 1 1 [undoE 1 4 3] rfl rfl HSX.out 6 rfl (by decide) HXl.out.size ?_; intro AM cM W2 ho2 hg2; have HO3 := Lib.hid ho2; have HXl := Lib.hid (HXl.out.own HO2.out hg2 (Nat.le_refl _)); clear ho2 hg2))
  have HX := Lib.hid (HX.out.trans HXl.out)
  have HL := Lib.hid (HL.out.ext HXl.out)
  have HM := Lib.hid (show Sv W2 W2.heap.size 17 AM cM (rowsE sm0) from own_sv_E HO3.out rfl)
  clear HZ HLZ HWZ HO1 HSX HXB HO2 HO3 HXl
  have HXl := Lib.hid (Ext.refl W2)
  go_upto_region 4 with (first
      | (go_at_call 30; refine (lawname_any _ _ _).mono ?_; rintro e Wn ⟨rfl, xx⟩; have HXl := Lib.hid (HXl.out.trans xx); clear xx)
      | (go_at_call 9; refine (status_known _ _ _ sl0 slS _ _ _ _ (HL.out.ext HXl.out) rfl (by decide) (HR.out.ext (HX.out.trans HXl.out)) k_st1).mono ?_; rintro e Ws ⟨rfl, xs⟩; have HXl := Lib.hid (HXl.out.trans xs); clear xs)
      | (refine wpList_store_blk 24 (.tmp 4) (.tmp 38) rfl rfl (Arr.new Ws 24 [.int .i64 0, .int .i64 0]) [.int .i64 1, .int .i64 3] rfl rfl (by kernel_rfl) rfl rfl ?_))
  have HXn := Lib.hid (HXl.out.trans (((Ext.refl Ws).alloc (.cells ([.int .i64 0, .int .i64 0] : List Value).toArray 24)).setRow (g := Ws.heap.size) (Nat.le_refl _) ([.int .i64 1, .int .i64 3] : List Value).toArray))
  have HB4 := Lib.hid ((Arr.new Ws 24 [.int .i64 0, .int .i64 0]).setRow [.int .i64 1, .int .i64 3])
  obtain ⟨W3, hW⟩ : ∃ W, W = (Ws.alloc (.cells ([.int .i64 0, .int .i64 0] : List Value).toArray 24)).setRow Ws.heap.size ([.int .i64 1, .int .i64 3] : List Value).toArray := ⟨_, rfl⟩
  rw [← hW] at HXn HB4
  rw [← hW]
  clear hW HXl
  obtain ⟨b4, hb4⟩ : ∃ b, b = Ws.heap.size := ⟨_, rfl⟩
  rw [← hb4] at HB4
  rw [← hb4]
  clear hb4
  have HL := Lib.hid (HL.out.ext HXn.out)
  have HM := Lib.hid (HM.out.ext HXn.out)
  have HX := Lib.hid (HX.out.trans HXn.out)
  clear HXn
  have HXl := Lib.hid (Ext.refl W3)
  go_upto_region 5 with (first
      | (go_at_call 30; refine (lawname_any _ _ _).mono ?_; rintro e Wn ⟨rfl, xx⟩; have HXl := Lib.hid (HXl.out.trans xx); clear xx)
      | (go_at_call 9; refine (status_known _ _ _ sl0 slS _ _ _ _ (HL.out.ext HXl.out) rfl (by decide) (HR.out.ext (HX.out.trans HXl.out)) k_st2).mono ?_; rintro e Ws ⟨rfl, xs⟩; have HXl := Lib.hid (HXl.out.trans xs); clear xs)
      | (refine wpList_store_blk 24 (.tmp 6) (.tmp 44) rfl rfl (Arr.new Ws 24 [.int .i64 0, .int .i64 0]) [.int .i64 0, .int .i64 0] rfl rfl (by kernel_rfl) rfl rfl ?_))
  have HXn := Lib.hid (HXl.out.trans (((Ext.refl Ws).alloc (.cells ([.int .i64 0, .int .i64 0] : List Value).toArray 24)).setRow (g := Ws.heap.size) (Nat.le_refl _) ([.int .i64 0, .int .i64 0] : List Value).toArray))
  obtain ⟨W4, hW⟩ : ∃ W, W = (Ws.alloc (.cells ([.int .i64 0, .int .i64 0] : List Value).toArray 24)).setRow Ws.heap.size ([.int .i64 0, .int .i64 0] : List Value).toArray := ⟨_, rfl⟩
  rw [← hW] at HXn
  rw [← hW]
  clear hW HXl
  have HL := Lib.hid (HL.out.ext HXn.out)
  have HM := Lib.hid (HM.out.ext HXn.out)
  have HB4 := Lib.hid (HB4.out.ext HXn.out)
  have HX := Lib.hid (HX.out.trans HXn.out)
  clear HXn
  have HXl := Lib.hid (Ext.refl W4)
  go_upto_region 6 with (first
      | (go_at_call 30; refine (lawname_any _ _ _).mono ?_; rintro e Wn ⟨rfl, xx⟩; have HXl := Lib.hid (HXl.out.trans xx); clear xx)
      | (go_at_call 9; refine (status_known _ _ _ sl0 slS _ _ _ _ (HL.out.ext HXl.out) rfl (by decide) (HR.out.ext (HX.out.trans HXl.out)) k_st3).mono ?_; rintro e Ws ⟨rfl, xs⟩; have HXl := Lib.hid (HXl.out.trans xs); clear xs)
      | (refine wpList_store_blk 24 (.tmp 8) (.tmp 50) rfl rfl (Arr.new Ws 24 [.int .i64 0, .int .i64 0]) [.int .i64 0, .int .i64 0] rfl rfl (by kernel_rfl) rfl rfl ?_))
  have HXn := Lib.hid (HXl.out.trans (((Ext.refl Ws).alloc (.cells ([.int .i64 0, .int .i64 0] : List Value).toArray 24)).setRow (g := Ws.heap.size) (Nat.le_refl _) ([.int .i64 0, .int .i64 0] : List Value).toArray))
  obtain ⟨W5, hW⟩ : ∃ W, W = (Ws.alloc (.cells ([.int .i64 0, .int .i64 0] : List Value).toArray 24)).setRow Ws.heap.size ([.int .i64 0, .int .i64 0] : List Value).toArray := ⟨_, rfl⟩
  rw [← hW] at HXn
  rw [← hW]
  clear hW HXl
  have HL := Lib.hid (HL.out.ext HXn.out)
  have HM := Lib.hid (HM.out.ext HXn.out)
  have HB4 := Lib.hid (HB4.out.ext HXn.out)
  have HX := Lib.hid (HX.out.trans HXn.out)
  clear HXn
  go_upto_region 7 with (go_at_call 11; refine (undoable_known _ _ _ sl0 slS slA _ _ _ _ HL.out rfl (by decide) (HR.out.ext HX.out) k_al k_u1 rfl).mono ?_; rintro e W6 ⟨rfl, xs⟩)
  have HXn := Lib.hid xs
  clear xs
  have HL := Lib.hid (HL.out.ext HXn.out)
  have HM := Lib.hid (HM.out.ext HXn.out)
  have HB4 := Lib.hid (HB4.out.ext HXn.out)
  have HX := Lib.hid (HX.out.trans HXn.out)
  clear HXn
  go_upto_region 8 with (go_at_call 13; refine (redoable_known _ _ _ sl0 slS slA _ _ _ _ HL.out rfl (by decide) (HR.out.ext HX.out) k_al k_r1 rfl).mono ?_; rintro e W7 ⟨rfl, xs⟩)
  have HXn := Lib.hid xs
  clear xs
  have HL := Lib.hid (HL.out.ext HXn.out)
  have HM := Lib.hid (HM.out.ext HXn.out)
  have HB4 := Lib.hid (HB4.out.ext HXn.out)
  have HX := Lib.hid (HX.out.trans HXn.out)
  clear HXn
  go_upto_region 9 with (go_at_call 13; refine (redoable_known _ _ _ sl0 slS slA _ _ _ _ HL.out rfl (by decide) (HR.out.ext HX.out) k_al k_r2 rfl).mono ?_; rintro e W8 ⟨rfl, xs⟩)
  have HXn := Lib.hid xs
  clear xs
  have HL := Lib.hid (HL.out.ext HXn.out)
  have HM := Lib.hid (HM.out.ext HXn.out)
  have HB4 := Lib.hid (HB4.out.ext HXn.out)
  have HX := Lib.hid (HX.out.trans HXn.out)
  clear HXn
  obtain ⟨WZ, hWZ⟩ : ∃ W, W = W8.alloc (.cells #[] 32) := ⟨_, rfl⟩
  have HZ := Lib.hid (show WZ.ownsRow W8.heap.size 32 17 (.slice (some ⟨W8.heap.size, 0, none⟩) 0 0) 0 (rowsE []).flatten by rw [hWZ]; exact own_zero W8 _ 17)
  have HXl := Lib.hid (show Ext W8 WZ by rw [hWZ]; exact (Ext.refl _).alloc _)
  have HLZ := Lib.hid (HL.out.ext HXl.out)
  have HWZ := Lib.hid hWZ
  clear hWZ
  go_upto_region 10 with (first
      | (at_builtin; rw [← HWZ.out]; refine wpList_append_E rfl (.tmp 66) (.tmp 67) rfl W8.heap.size _ [] rfl 0 rfl HZ.out AL 5 5 sl0 rfl rfl HLZ.out 5 rfl (by decide) HXl.out.size ?_; intro A1 c1 WA ho1 hg1; have HO1 := Lib.hid ho1; have HXl := Lib.hid (HXl.out.own HZ.out hg1 (Nat.le_refl _)); clear ho1 hg1)
      | (go_at_call 29; refine (lawbox_any _ _ _ (by decide) WA).mono ?_; rintro e WB ⟨rfl, xB⟩; have HSX := Lib.hid (svE_lit WB [boxE 1 1 9] (by decide)); have HXB := Lib.hid (xB.alloc (.cells (rowsE [boxE 1 1 9]).flatten.toArray 32)); have HO2 := Lib.hid (own_ext HO1.out HXB.out); have HXl := Lib.hid (HXl.out.trans HXB.out); clear xB)
      | (refine wpList_buildRows rfl 22 32 1 _ rfl 17 (by decide) (rowsE [boxE 1 1 9]) (rows_len17 _) rfl (by decide) (by decide) (by kernel_rfl) Tryd.underlying22 (by kernel_rfl) (by kernel_rfl) ?_)
      | (at_builtin; refine wpList_append_E rfl (.tmp 68) (.tmp 70) rfl W8.heap.size _ ([] ++ sl0) rfl 5 rfl HO2.out _ 1 1 [boxE 1 1 9] rfl rfl HSX.out 6 rfl (by decide) HXl.out.size ?_; intro AF cF W9 ho2 hg2; have HO3 := Lib.hid ho2; have HXl := Lib.hid (HXl.out.own HO2.out hg2 (Nat.le_refl _)); clear ho2 hg2))
  have HX := Lib.hid (HX.out.trans HXl.out)
  have HL := Lib.hid (HL.out.ext HXl.out)
  have HF := Lib.hid (show Sv W9 W9.heap.size 17 AF cF (rowsE sf0) from own_sv_E HO3.out rfl)
  have HM := Lib.hid (HM.out.ext HXl.out)
  have HB4 := Lib.hid (HB4.out.ext HXl.out)
  clear HZ HLZ HWZ HO1 HSX HXB HO2 HO3 HXl
  have HXl := Lib.hid (Ext.refl W9)
  go_upto_region 11 with (first
      | (go_at_call 30; refine (lawname_any _ _ _).mono ?_; rintro e Wn ⟨rfl, xx⟩; have HXl := Lib.hid (HXl.out.trans xx); clear xx)
      | (go_at_call 9; refine (status_known _ _ _ sf0 sfS _ _ _ _ (HF.out.ext HXl.out) rfl (by decide) (HR.out.ext (HX.out.trans HXl.out)) k_st4).mono ?_; rintro e Ws ⟨rfl, xs⟩; have HXl := Lib.hid (HXl.out.trans xs); clear xs)
      | (refine wpList_store_blk 24 (.tmp 17) (.tmp 77) rfl rfl (Arr.new Ws 24 [.int .i64 0, .int .i64 0]) [.int .i64 0, .int .i64 0] rfl rfl (by kernel_rfl) rfl rfl ?_))
  have HXn := Lib.hid (HXl.out.trans (((Ext.refl Ws).alloc (.cells ([.int .i64 0, .int .i64 0] : List Value).toArray 24)).setRow (g := Ws.heap.size) (Nat.le_refl _) ([.int .i64 0, .int .i64 0] : List Value).toArray))
  obtain ⟨W10, hW⟩ : ∃ W, W = (Ws.alloc (.cells ([.int .i64 0, .int .i64 0] : List Value).toArray 24)).setRow Ws.heap.size ([.int .i64 0, .int .i64 0] : List Value).toArray := ⟨_, rfl⟩
  rw [← hW] at HXn
  rw [← hW]
  clear hW HXl
  have HL := Lib.hid (HL.out.ext HXn.out)
  have HM := Lib.hid (HM.out.ext HXn.out)
  have HB4 := Lib.hid (HB4.out.ext HXn.out)
  have HF := Lib.hid (HF.out.ext HXn.out)
  have HX := Lib.hid (HX.out.trans HXn.out)
  clear HXn
  have HXl := Lib.hid (Ext.refl W10)
  go_upto_region 12 with (first
      | (go_at_call 21; refine (active_known _ _ _ sl0 slS slA _ HL.out rfl (by decide) (HR.out.ext HX.out) k_al).mono ?_; rintro e wa ⟨A5, c5, rfl, s5, xa⟩; have HXl := Lib.hid (HXl.out.trans xa); have HS5 := Lib.hid s5; have HXm := Lib.hid (Ext.refl wa); clear xa s5)
      | (go_at_call 29; refine (lawbox_any _ _ _ (by decide) _).mono ?_; rintro e wb ⟨rfl, xx⟩; have HXl := Lib.hid (HXl.out.trans xx); have HXm := Lib.hid (HXm.out.trans xx); clear xx)
      | (go_at_call 28; refine (lawundo_any _ _ _ (by decide) _).mono ?_; rintro e wb ⟨rfl, xx⟩; have HXl := Lib.hid (HXl.out.trans xx); have HXm := Lib.hid (HXm.out.trans xx); clear xx)
      | (refine wpList_buildRows rfl 22 32 3 _ rfl 17 (by decide) (rowsE slA) (rows_len17 _) rfl (by decide) (by decide) (by kernel_rfl) Tryd.underlying22 (by kernel_rfl) (by kernel_rfl) ?_)
      | (go_at_call 15; refine (same_known _ _ _ _ _ _ slA slA _ (HS5.out.ext (HXm.out.alloc _)) (svE_lit wb slA (by decide)) rfl rfl (by decide) rfl).mono ?_; rintro e W11 ⟨rfl, xs⟩; have HXn := Lib.hid ((HXl.out.alloc _).trans xs); clear xs))
  clear HXl HXm HS5
  have HL := Lib.hid (HL.out.ext HXn.out)
  have HM := Lib.hid (HM.out.ext HXn.out)
  have HB4 := Lib.hid (HB4.out.ext HXn.out)
  have HF := Lib.hid (HF.out.ext HXn.out)
  have HX := Lib.hid (HX.out.trans HXn.out)
  clear HXn
  have HXl := Lib.hid (Ext.refl W11)
  go_upto_region 13 with (first
      | (go_at_call 21; refine (active_known _ _ _ sm0 smS smA _ HM.out rfl (by decide) (HR.out.ext HX.out) k_am).mono ?_; rintro e wa ⟨A5, c5, rfl, s5, xa⟩; have HXl := Lib.hid (HXl.out.trans xa); have HS5 := Lib.hid s5; have HXm := Lib.hid (Ext.refl wa); clear xa s5)
      | (go_at_call 29; refine (lawbox_any _ _ _ (by decide) _).mono ?_; rintro e wb ⟨rfl, xx⟩; have HXl := Lib.hid (HXl.out.trans xx); have HXm := Lib.hid (HXm.out.trans xx); clear xx)
      | (go_at_call 28; refine (lawundo_any _ _ _ (by decide) _).mono ?_; rintro e wb ⟨rfl, xx⟩; have HXl := Lib.hid (HXl.out.trans xx); have HXm := Lib.hid (HXm.out.trans xx); clear xx)
      | (refine wpList_buildRows rfl 22 32 4 _ rfl 17 (by decide) (rowsE smA) (rows_len17 _) rfl (by decide) (by decide) (by kernel_rfl) Tryd.underlying22 (by kernel_rfl) (by kernel_rfl) ?_)
      | (go_at_call 15; refine (same_known _ _ _ _ _ _ smA smA _ (HS5.out.ext (HXm.out.alloc _)) (svE_lit wb smA (by decide)) rfl rfl (by decide) rfl).mono ?_; rintro e W12 ⟨rfl, xs⟩; have HXn := Lib.hid ((HXl.out.alloc _).trans xs); clear xs))
  clear HXl HXm HS5
  have HL := Lib.hid (HL.out.ext HXn.out)
  have HM := Lib.hid (HM.out.ext HXn.out)
  have HB4 := Lib.hid (HB4.out.ext HXn.out)
  have HF := Lib.hid (HF.out.ext HXn.out)
  have HX := Lib.hid (HX.out.trans HXn.out)
  clear HXn
  have HXl := Lib.hid (Ext.refl W12)
  have K1 := Lib.hid (fun (W : World) (hx : Ext W12 W) => forks_known AF cF 6 sf0 [⟨1, 1⟩] W (HF.out.ext hx) rfl (by decide) (HR.out.ext (HX.out.trans hx)) k_ff)
  have K2 := Lib.hid (fun (W : World) (hx : Ext W12 W) => forks_known AL 5 5 sl0 [] W (HL.out.ext hx) rfl (by decide) (HR.out.ext (HX.out.trans hx)) k_fl)
  have K3 := Lib.hid (fun (W : World) (hx : Ext W12 W) => set_known AL 5 5 sl0 slS W (HL.out.ext hx) rfl (by decide) (HR.out.ext (HX.out.trans hx)) k_sl)
  have K4 := Lib.hid (fun (W : World) (hx : Ext W12 W) => set_known AF cF 6 sf0 sfS W (HF.out.ext hx) rfl (by decide) (HR.out.ext (HX.out.trans hx)) k_sf)
  go_upto_region 14 with (first
      | (go_at_call 19; first | ((with_reducible refine (K1.out _ HXl.out).mono ?_); rintro e wa ⟨A5, c5, rfl, s5, xa⟩; have HS5 := Lib.hid s5; have HXl := Lib.hid (HXl.out.trans xa); clear s5 xa) | ((with_reducible refine (K2.out _ HXl.out).mono ?_); rintro e wd ⟨A6, c6, rfl, s6, xd⟩; have HXl := Lib.hid (HXl.out.trans xd); clear s6 xd))
      | (go_at_call 30; refine (lawname_any _ _ _).mono ?_; rintro e wb ⟨rfl, xb⟩; have HS5 := Lib.hid (HS5.out.ext xb); have HXl := Lib.hid (HXl.out.trans xb); clear xb)
      | (refine wpList_buildRows rfl 41 24 1 _ rfl 2 (by decide) (rowsN [⟨1, 1⟩]) (rows_len2 _) rfl (by decide) (by decide) (by kernel_rfl) Tryd.underlying41 (by kernel_rfl) (by kernel_rfl) ?_)
      | (go_at_call 18; refine (sameNm_known _ _ _ _ _ _ [⟨1, 1⟩] [⟨1, 1⟩] _ (HS5.out.ext ((Ext.refl _).alloc _)) (svN_lit wb [⟨1, 1⟩] (by decide)) rfl rfl (by decide) rfl).mono ?_; rintro e wc ⟨rfl, xc⟩; have HXl := Lib.hid ((HXl.out.alloc _).trans xc); clear xc)
      | (go_at_call 16; first | ((with_reducible refine (K3.out _ HXl.out).mono ?_); rintro e we ⟨A7, c7, rfl, s7, xe⟩; have HXl := Lib.hid (HXl.out.trans xe); clear s7 xe) | ((with_reducible refine (K4.out _ HXl.out).mono ?_); rintro e W13 ⟨A8, c8, rfl, s8, xf⟩; have HXl := Lib.hid (HXl.out.trans xf); clear s8 xf)))
  have HXn := Lib.hid HXl.out
  clear HXl K1 K2 K3 K4 HS5
  have HL := Lib.hid (HL.out.ext HXn.out)
  have HM := Lib.hid (HM.out.ext HXn.out)
  have HB4 := Lib.hid (HB4.out.ext HXn.out)
  have HF := Lib.hid (HF.out.ext HXn.out)
  have HX := Lib.hid (HX.out.trans HXn.out)
  clear HXn
  have hn1 := eqNm_run ⟨1, 3⟩ ⟨1, 3⟩
  have hn2 := eqNm_run ⟨3, 4⟩ ⟨3, 4⟩
  refine wp_region_rel (fun i v w' => match i with
      | 0 => v = .bool true
      | 1 => v = .bool true
      | 2 => v = .bool true
      | 3 => v = .bool true
      | 4 => v = .bool true
      | 5 => v = .bool true
      | 6 => v = .bool true
      | 7 => v = .bool true
      | 8 => v = .int .i64 2
      | 9 => v = .bool true
      | 10 => v = .bool true
      | 11 => v = .bool true
      | 12 => v = .agg (⟨1, 3⟩ : Nm).cells.toArray
      | 13 => v = .agg (⟨1, 3⟩ : Nm).cells.toArray
      | 14 => v = .bool true
      | 15 => v = .bool true
      | 16 => v = .bool true
      | 17 => v = .int .i64 1
      | 18 => v = .bool true
      | 19 => v = .bool true
      | 20 => v = .bool true
      | 21 => v = .int .i64 0
      | 22 => v = .bool true
      | 23 => v = .bool true
      | 24 => v = .bool true
      | 25 => v = .int .i64 3
      | 26 => v = .bool true
      | 27 => v = .bool true
      | 28 => v = .bool true
      | 29 => v = .int .i64 1
      | 30 => v = .bool true
      | 31 => v = .bool true
      | 32 => v = .bool true
      | 33 => v = .bool true
      | 34 => v = .bool true
      | 35 => v = .bool true
      | 36 => v = .int .i64 3
      | 37 => v = .bool true
      | 38 => v = .bool true
      | 39 => v = .bool true
      | 40 => v = .bool true
      | 41 => v = .bool true
      | 42 => v = .bool true
      | 43 => v = .bool false
      | 44 => v = .bool true
      | 45 => v = .bool true
      | 46 => v = .bool true
      | 47 => v = .agg (boxE 3 4 5).cells.toArray
      | 48 => v = .agg (⟨3, 4⟩ : Nm).cells.toArray
      | 49 => v = .agg (⟨3, 4⟩ : Nm).cells.toArray
      | 50 => v = .bool true
      | 51 => v = .bool true
      | 52 => v = .bool true
      | 53 => v = .slice AL 5 5
      | 54 => v = .slice AL 5 5
      | 55 => v = .bool true
      | 56 => v = .bool true
      | 57 => v = .bool true
      | 58 => v = .slice AL 5 5
      | 59 => v = .slice AM 6 cM
      | 60 => v = .bool false
      | 61 => v = .bool true
      | 62 => v = .bool true
      | 63 => v = .bool true
      | _ => True) hm (by kernel_rfl) (by kernel_rfl) rfl ?_ ?_ ?_
  · intro i v w1 w2 hx h
    match i, h with
    | 0, h => exact h
    | 1, h => exact h
    | 2, h => exact h
    | 3, h => exact h
    | 4, h => exact h
    | 5, h => exact h
    | 6, h => exact h
    | 7, h => exact h
    | 8, h => exact h
    | 9, h => exact h
    | 10, h => exact h
    | 11, h => exact h
    | 12, h => exact h
    | 13, h => exact h
    | 14, h => exact h
    | 15, h => exact h
    | 16, h => exact h
    | 17, h => exact h
    | 18, h => exact h
    | 19, h => exact h
    | 20, h => exact h
    | 21, h => exact h
    | 22, h => exact h
    | 23, h => exact h
    | 24, h => exact h
    | 25, h => exact h
    | 26, h => exact h
    | 27, h => exact h
    | 28, h => exact h
    | 29, h => exact h
    | 30, h => exact h
    | 31, h => exact h
    | 32, h => exact h
    | 33, h => exact h
    | 34, h => exact h
    | 35, h => exact h
    | 36, h => exact h
    | 37, h => exact h
    | 38, h => exact h
    | 39, h => exact h
    | 40, h => exact h
    | 41, h => exact h
    | 42, h => exact h
    | 43, h => exact h
    | 44, h => exact h
    | 45, h => exact h
    | 46, h => exact h
    | 47, h => exact h
    | 48, h => exact h
    | 49, h => exact h
    | 50, h => exact h
    | 51, h => exact h
    | 52, h => exact h
    | 53, h => exact h
    | 54, h => exact h
    | 55, h => exact h
    | 56, h => exact h
    | 57, h => exact h
    | 58, h => exact h
    | 59, h => exact h
    | 60, h => exact h
    | 61, h => exact h
    | 62, h => exact h
    | 63, h => exact h
    | i + 64, h => exact h
  · intro i o ho b w1 hx hmiss hdep K hK
    match i, ho with
    | 0, ho =>
      obtain rfl := Option.some.inj ho
      have e18 : b.tmps[18]? = some (.bool true) := hmiss 18 rfl
      refine want_none rfl ?_
      exact op_move rfl (eval_of e18) (hK _ w1 (Ext.refl _) rfl)
    | 1, ho =>
      obtain rfl := Option.some.inj ho
      obtain ⟨v116, g116, e116⟩ := hdep 0 rfl
      have g116 : v116 = .bool true := g116
      subst g116
      have e116 := e116 116 rfl
      refine want_none rfl ?_
      exact op_move rfl (eval_of e116) (hK _ w1 (Ext.refl _) rfl)
    | 2, ho =>
      obtain rfl := Option.some.inj ho
      have e19 : b.tmps[19]? = some (.bool true) := hmiss 19 rfl
      obtain ⟨vg, gg, eg⟩ := hdep 1 rfl
      have gg : vg = .bool true := gg
      subst gg
      have eg := eg 117 rfl
      refine want_yes rfl rfl eg ?_
      exact op_move rfl (eval_of e19) (hK _ w1 (Ext.refl _) rfl)
    | 3, ho =>
      obtain rfl := Option.some.inj ho
      obtain ⟨v117, g117, e117⟩ := hdep 1 rfl
      have g117 : v117 = .bool true := g117
      subst g117
      have e117 := e117 117 rfl
      obtain ⟨v118, g118, e118⟩ := hdep 2 rfl
      have g118 : v118 = .bool true := g118
      subst g118
      have e118 := e118 118 rfl
      refine want_none rfl ?_
      exact op_run (by unfold execOp; simp [e117, e118, Act.eval, go_sem]) (hK _ w1 (Ext.refl _) rfl)
    | 4, ho =>
      obtain rfl := Option.some.inj ho
      obtain ⟨v119, g119, e119⟩ := hdep 3 rfl
      have g119 : v119 = .bool true := g119
      subst g119
      have e119 := e119 119 rfl
      refine want_none rfl ?_
      exact op_move rfl (eval_of e119) (hK _ w1 (Ext.refl _) rfl)
    | 5, ho =>
      obtain rfl := Option.some.inj ho
      have e20 : b.tmps[20]? = some (.bool true) := hmiss 20 rfl
      obtain ⟨vg, gg, eg⟩ := hdep 4 rfl
      have gg : vg = .bool true := gg
      subst gg
      have eg := eg 120 rfl
      refine want_yes rfl rfl eg ?_
      exact op_move rfl (eval_of e20) (hK _ w1 (Ext.refl _) rfl)
    | 6, ho =>
      obtain rfl := Option.some.inj ho
      obtain ⟨v120, g120, e120⟩ := hdep 4 rfl
      have g120 : v120 = .bool true := g120
      subst g120
      have e120 := e120 120 rfl
      obtain ⟨v121, g121, e121⟩ := hdep 5 rfl
      have g121 : v121 = .bool true := g121
      subst g121
      have e121 := e121 121 rfl
      refine want_none rfl ?_
      exact op_run (by unfold execOp; simp [e120, e121, Act.eval, go_sem]) (hK _ w1 (Ext.refl _) rfl)
    | 7, ho =>
      obtain rfl := Option.some.inj ho
      obtain ⟨v122, g122, e122⟩ := hdep 6 rfl
      have g122 : v122 = .bool true := g122
      subst g122
      have e122 := e122 122 rfl
      refine want_none rfl ?_
      exact op_move rfl (eval_of e122) (hK _ w1 (Ext.refl _) rfl)
    | 8, ho =>
      obtain rfl := Option.some.inj ho
      have e3 : b.tmps[3]? = some (.int .i64 2) := hmiss 3 rfl
      obtain ⟨vg, gg, eg⟩ := hdep 7 rfl
      have gg : vg = .bool true := gg
      subst gg
      have eg := eg 123 rfl
      refine want_yes rfl rfl eg ?_
      exact op_move rfl (eval_of e3) (hK _ w1 (Ext.refl _) rfl)
    | 9, ho =>
      obtain rfl := Option.some.inj ho
      obtain ⟨v124, g124, e124⟩ := hdep 8 rfl
      have g124 : v124 = .int .i64 2 := g124
      subst g124
      have e124 := e124 124 rfl
      obtain ⟨vg, gg, eg⟩ := hdep 7 rfl
      have gg : vg = .bool true := gg
      subst gg
      have eg := eg 123 rfl
      refine want_yes rfl rfl eg ?_
      exact op_run (by unfold execOp; simp [e124, Act.eval, go_sem]) (hK _ w1 (Ext.refl _) rfl)
    | 10, ho =>
      obtain rfl := Option.some.inj ho
      obtain ⟨v123, g123, e123⟩ := hdep 7 rfl
      have g123 : v123 = .bool true := g123
      subst g123
      have e123 := e123 123 rfl
      obtain ⟨v125, g125, e125⟩ := hdep 9 rfl
      have g125 : v125 = .bool true := g125
      subst g125
      have e125 := e125 125 rfl
      refine want_none rfl ?_
      exact op_run (by unfold execOp; simp [e123, e125, Act.eval, go_sem]) (hK _ w1 (Ext.refl _) rfl)
    | 11, ho =>
      obtain rfl := Option.some.inj ho
      obtain ⟨v126, g126, e126⟩ := hdep 10 rfl
      have g126 : v126 = .bool true := g126
      subst g126
      have e126 := e126 126 rfl
      refine want_none rfl ?_
      exact op_move rfl (eval_of e126) (hK _ w1 (Ext.refl _) rfl)
    | 12, ho =>
      obtain rfl := Option.some.inj ho
      have e4 : b.tmps[4]? = some (.pointer (some ⟨b4, 0, none⟩)) := hmiss 4 rfl
      obtain ⟨vg, gg, eg⟩ := hdep 11 rfl
      have gg : vg = .bool true := gg
      subst gg
      have eg := eg 127 rfl
      refine want_yes rfl rfl eg ?_
      exact op_loadrow rfl (eval_of e4) (HB4.out.ext hx) _ Tryd.underlying24 rfl (by kernel_rfl) (hK _ w1 (Ext.refl _) rfl)
    | 13, ho =>
      obtain rfl := Option.some.inj ho
      obtain ⟨vg, gg, eg⟩ := hdep 11 rfl
      have gg : vg = .bool true := gg
      subst gg
      have eg := eg 127 rfl
      refine want_yes rfl rfl eg ?_
      have hc : Calls Tryd.prog 30 #[.int .i64 1, .int .i64 3] w1 fun e w' => ∃ v, e = .returned v ∧ Ext w1 w' ∧ (v = .agg (⟨1, 3⟩ : Nm).cells.toArray) := (lawname_any 1 3 w1).mono fun e w2 ⟨h1, h2⟩ => ⟨_, h1, h2, rfl⟩
      exact op_call (G := fun v w' => v = .agg (⟨1, 3⟩ : Nm).cells.toArray) (vs := #[.int .i64 1, .int .i64 3]) rfl (by simp [Act.eval]) (fun _ _ => by kernel_rfl) hc (fun v w' h1 h2 => hK v w' h1 h2)
    | 14, ho =>
      obtain rfl := Option.some.inj ho
      obtain ⟨v128, g128, e128⟩ := hdep 12 rfl
      have g128 : v128 = .agg (⟨1, 3⟩ : Nm).cells.toArray := g128
      subst g128
      have e128 := e128 128 rfl
      obtain ⟨v129, g129, e129⟩ := hdep 13 rfl
      obtain rfl := g129
      have e129 := e129 129 rfl
      obtain ⟨vg, gg, eg⟩ := hdep 11 rfl
      have gg : vg = .bool true := gg
      subst gg
      have eg := eg 127 rfl
      refine want_yes rfl rfl eg ?_
      exact op_run (by unfold execOp; simp [e128, e129, Act.eval, go_sem, hn1]) (hK _ w1 (Ext.refl _) rfl)
    | 15, ho =>
      obtain rfl := Option.some.inj ho
      obtain ⟨v127, g127, e127⟩ := hdep 11 rfl
      have g127 : v127 = .bool true := g127
      subst g127
      have e127 := e127 127 rfl
      obtain ⟨v130, g130, e130⟩ := hdep 14 rfl
      have g130 : v130 = .bool true := g130
      subst g130
      have e130 := e130 130 rfl
      refine want_none rfl ?_
      exact op_run (by unfold execOp; simp [e127, e130, Act.eval, go_sem]) (hK _ w1 (Ext.refl _) rfl)
    | 16, ho =>
      obtain rfl := Option.some.inj ho
      obtain ⟨v131, g131, e131⟩ := hdep 15 rfl
      have g131 : v131 = .bool true := g131
      subst g131
      have e131 := e131 131 rfl
      refine want_none rfl ?_
      exact op_move rfl (eval_of e131) (hK _ w1 (Ext.refl _) rfl)
    | 17, ho =>
      obtain rfl := Option.some.inj ho
      have e5 : b.tmps[5]? = some (.int .i64 1) := hmiss 5 rfl
      obtain ⟨vg, gg, eg⟩ := hdep 16 rfl
      have gg : vg = .bool true := gg
      subst gg
      have eg := eg 132 rfl
      refine want_yes rfl rfl eg ?_
      exact op_move rfl (eval_of e5) (hK _ w1 (Ext.refl _) rfl)
    | 18, ho =>
      obtain rfl := Option.some.inj ho
      obtain ⟨v133, g133, e133⟩ := hdep 17 rfl
      have g133 : v133 = .int .i64 1 := g133
      subst g133
      have e133 := e133 133 rfl
      obtain ⟨vg, gg, eg⟩ := hdep 16 rfl
      have gg : vg = .bool true := gg
      subst gg
      have eg := eg 132 rfl
      refine want_yes rfl rfl eg ?_
      exact op_run (by unfold execOp; simp [e133, Act.eval, go_sem]) (hK _ w1 (Ext.refl _) rfl)
    | 19, ho =>
      obtain rfl := Option.some.inj ho
      obtain ⟨v132, g132, e132⟩ := hdep 16 rfl
      have g132 : v132 = .bool true := g132
      subst g132
      have e132 := e132 132 rfl
      obtain ⟨v134, g134, e134⟩ := hdep 18 rfl
      have g134 : v134 = .bool true := g134
      subst g134
      have e134 := e134 134 rfl
      refine want_none rfl ?_
      exact op_run (by unfold execOp; simp [e132, e134, Act.eval, go_sem]) (hK _ w1 (Ext.refl _) rfl)
    | 20, ho =>
      obtain rfl := Option.some.inj ho
      obtain ⟨v135, g135, e135⟩ := hdep 19 rfl
      have g135 : v135 = .bool true := g135
      subst g135
      have e135 := e135 135 rfl
      refine want_none rfl ?_
      exact op_move rfl (eval_of e135) (hK _ w1 (Ext.refl _) rfl)
    | 21, ho =>
      obtain rfl := Option.some.inj ho
      have e7 : b.tmps[7]? = some (.int .i64 0) := hmiss 7 rfl
      obtain ⟨vg, gg, eg⟩ := hdep 20 rfl
      have gg : vg = .bool true := gg
      subst gg
      have eg := eg 136 rfl
      refine want_yes rfl rfl eg ?_
      exact op_move rfl (eval_of e7) (hK _ w1 (Ext.refl _) rfl)
    | 22, ho =>
      obtain rfl := Option.some.inj ho
      obtain ⟨v137, g137, e137⟩ := hdep 21 rfl
      have g137 : v137 = .int .i64 0 := g137
      subst g137
      have e137 := e137 137 rfl
      obtain ⟨vg, gg, eg⟩ := hdep 20 rfl
      have gg : vg = .bool true := gg
      subst gg
      have eg := eg 136 rfl
      refine want_yes rfl rfl eg ?_
      exact op_run (by unfold execOp; simp [e137, Act.eval, go_sem]) (hK _ w1 (Ext.refl _) rfl)
    | 23, ho =>
      obtain rfl := Option.some.inj ho
      obtain ⟨v136, g136, e136⟩ := hdep 20 rfl
      have g136 : v136 = .bool true := g136
      subst g136
      have e136 := e136 136 rfl
      obtain ⟨v138, g138, e138⟩ := hdep 22 rfl
      have g138 : v138 = .bool true := g138
      subst g138
      have e138 := e138 138 rfl
      refine want_none rfl ?_
      exact op_run (by unfold execOp; simp [e136, e138, Act.eval, go_sem]) (hK _ w1 (Ext.refl _) rfl)
    | 24, ho =>
      obtain rfl := Option.some.inj ho
      obtain ⟨v139, g139, e139⟩ := hdep 23 rfl
      have g139 : v139 = .bool true := g139
      subst g139
      have e139 := e139 139 rfl
      refine want_none rfl ?_
      exact op_move rfl (eval_of e139) (hK _ w1 (Ext.refl _) rfl)
    | 25, ho =>
      obtain rfl := Option.some.inj ho
      have e16 : b.tmps[16]? = some (.int .i64 3) := hmiss 16 rfl
      obtain ⟨vg, gg, eg⟩ := hdep 24 rfl
      have gg : vg = .bool true := gg
      subst gg
      have eg := eg 140 rfl
      refine want_yes rfl rfl eg ?_
      exact op_move rfl (eval_of e16) (hK _ w1 (Ext.refl _) rfl)
    | 26, ho =>
      obtain rfl := Option.some.inj ho
      obtain ⟨v141, g141, e141⟩ := hdep 25 rfl
      have g141 : v141 = .int .i64 3 := g141
      subst g141
      have e141 := e141 141 rfl
      obtain ⟨vg, gg, eg⟩ := hdep 24 rfl
      have gg : vg = .bool true := gg
      subst gg
      have eg := eg 140 rfl
      refine want_yes rfl rfl eg ?_
      exact op_run (by unfold execOp; simp [e141, Act.eval, go_sem]) (hK _ w1 (Ext.refl _) rfl)
    | 27, ho =>
      obtain rfl := Option.some.inj ho
      obtain ⟨v140, g140, e140⟩ := hdep 24 rfl
      have g140 : v140 = .bool true := g140
      subst g140
      have e140 := e140 140 rfl
      obtain ⟨v142, g142, e142⟩ := hdep 26 rfl
      have g142 : v142 = .bool true := g142
      subst g142
      have e142 := e142 142 rfl
      refine want_none rfl ?_
      exact op_run (by unfold execOp; simp [e140, e142, Act.eval, go_sem]) (hK _ w1 (Ext.refl _) rfl)
    | 28, ho =>
      obtain rfl := Option.some.inj ho
      obtain ⟨v143, g143, e143⟩ := hdep 27 rfl
      have g143 : v143 = .bool true := g143
      subst g143
      have e143 := e143 143 rfl
      refine want_none rfl ?_
      exact op_move rfl (eval_of e143) (hK _ w1 (Ext.refl _) rfl)
    | 29, ho =>
      obtain rfl := Option.some.inj ho
      have e9 : b.tmps[9]? = some (.int .i64 1) := hmiss 9 rfl
      obtain ⟨vg, gg, eg⟩ := hdep 28 rfl
      have gg : vg = .bool true := gg
      subst gg
      have eg := eg 144 rfl
      refine want_yes rfl rfl eg ?_
      exact op_move rfl (eval_of e9) (hK _ w1 (Ext.refl _) rfl)
    | 30, ho =>
      obtain rfl := Option.some.inj ho
      obtain ⟨v145, g145, e145⟩ := hdep 29 rfl
      have g145 : v145 = .int .i64 1 := g145
      subst g145
      have e145 := e145 145 rfl
      obtain ⟨vg, gg, eg⟩ := hdep 28 rfl
      have gg : vg = .bool true := gg
      subst gg
      have eg := eg 144 rfl
      refine want_yes rfl rfl eg ?_
      exact op_run (by unfold execOp; simp [e145, Act.eval, go_sem]) (hK _ w1 (Ext.refl _) rfl)
    | 31, ho =>
      obtain rfl := Option.some.inj ho
      obtain ⟨v144, g144, e144⟩ := hdep 28 rfl
      have g144 : v144 = .bool true := g144
      subst g144
      have e144 := e144 144 rfl
      obtain ⟨v146, g146, e146⟩ := hdep 30 rfl
      have g146 : v146 = .bool true := g146
      subst g146
      have e146 := e146 146 rfl
      refine want_none rfl ?_
      exact op_run (by unfold execOp; simp [e144, e146, Act.eval, go_sem]) (hK _ w1 (Ext.refl _) rfl)
    | 32, ho =>
      obtain rfl := Option.some.inj ho
      obtain ⟨v147, g147, e147⟩ := hdep 31 rfl
      have g147 : v147 = .bool true := g147
      subst g147
      have e147 := e147 147 rfl
      refine want_none rfl ?_
      exact op_move rfl (eval_of e147) (hK _ w1 (Ext.refl _) rfl)
    | 33, ho =>
      obtain rfl := Option.some.inj ho
      have e10 : b.tmps[10]? = some (.bool true) := hmiss 10 rfl
      obtain ⟨vg, gg, eg⟩ := hdep 32 rfl
      have gg : vg = .bool true := gg
      subst gg
      have eg := eg 148 rfl
      refine want_yes rfl rfl eg ?_
      exact op_move rfl (eval_of e10) (hK _ w1 (Ext.refl _) rfl)
    | 34, ho =>
      obtain rfl := Option.some.inj ho
      obtain ⟨v148, g148, e148⟩ := hdep 32 rfl
      have g148 : v148 = .bool true := g148
      subst g148
      have e148 := e148 148 rfl
      obtain ⟨v149, g149, e149⟩ := hdep 33 rfl
      have g149 : v149 = .bool true := g149
      subst g149
      have e149 := e149 149 rfl
      refine want_none rfl ?_
      exact op_run (by unfold execOp; simp [e148, e149, Act.eval, go_sem]) (hK _ w1 (Ext.refl _) rfl)
    | 35, ho =>
      obtain rfl := Option.some.inj ho
      obtain ⟨v150, g150, e150⟩ := hdep 34 rfl
      have g150 : v150 = .bool true := g150
      subst g150
      have e150 := e150 150 rfl
      refine want_none rfl ?_
      exact op_move rfl (eval_of e150) (hK _ w1 (Ext.refl _) rfl)
    | 36, ho =>
      obtain rfl := Option.some.inj ho
      have e11 : b.tmps[11]? = some (.int .i64 3) := hmiss 11 rfl
      obtain ⟨vg, gg, eg⟩ := hdep 35 rfl
      have gg : vg = .bool true := gg
      subst gg
      have eg := eg 151 rfl
      refine want_yes rfl rfl eg ?_
      exact op_move rfl (eval_of e11) (hK _ w1 (Ext.refl _) rfl)
    | 37, ho =>
      obtain rfl := Option.some.inj ho
      obtain ⟨v152, g152, e152⟩ := hdep 36 rfl
      have g152 : v152 = .int .i64 3 := g152
      subst g152
      have e152 := e152 152 rfl
      obtain ⟨vg, gg, eg⟩ := hdep 35 rfl
      have gg : vg = .bool true := gg
      subst gg
      have eg := eg 151 rfl
      refine want_yes rfl rfl eg ?_
      exact op_run (by unfold execOp; simp [e152, Act.eval, go_sem]) (hK _ w1 (Ext.refl _) rfl)
    | 38, ho =>
      obtain rfl := Option.some.inj ho
      obtain ⟨v151, g151, e151⟩ := hdep 35 rfl
      have g151 : v151 = .bool true := g151
      subst g151
      have e151 := e151 151 rfl
      obtain ⟨v153, g153, e153⟩ := hdep 37 rfl
      have g153 : v153 = .bool true := g153
      subst g153
      have e153 := e153 153 rfl
      refine want_none rfl ?_
      exact op_run (by unfold execOp; simp [e151, e153, Act.eval, go_sem]) (hK _ w1 (Ext.refl _) rfl)
    | 39, ho =>
      obtain rfl := Option.some.inj ho
      obtain ⟨v154, g154, e154⟩ := hdep 38 rfl
      have g154 : v154 = .bool true := g154
      subst g154
      have e154 := e154 154 rfl
      refine want_none rfl ?_
      exact op_move rfl (eval_of e154) (hK _ w1 (Ext.refl _) rfl)
    | 40, ho =>
      obtain rfl := Option.some.inj ho
      have e12 : b.tmps[12]? = some (.bool true) := hmiss 12 rfl
      obtain ⟨vg, gg, eg⟩ := hdep 39 rfl
      have gg : vg = .bool true := gg
      subst gg
      have eg := eg 155 rfl
      refine want_yes rfl rfl eg ?_
      exact op_move rfl (eval_of e12) (hK _ w1 (Ext.refl _) rfl)
    | 41, ho =>
      obtain rfl := Option.some.inj ho
      obtain ⟨v155, g155, e155⟩ := hdep 39 rfl
      have g155 : v155 = .bool true := g155
      subst g155
      have e155 := e155 155 rfl
      obtain ⟨v156, g156, e156⟩ := hdep 40 rfl
      have g156 : v156 = .bool true := g156
      subst g156
      have e156 := e156 156 rfl
      refine want_none rfl ?_
      exact op_run (by unfold execOp; simp [e155, e156, Act.eval, go_sem]) (hK _ w1 (Ext.refl _) rfl)
    | 42, ho =>
      obtain rfl := Option.some.inj ho
      obtain ⟨v157, g157, e157⟩ := hdep 41 rfl
      have g157 : v157 = .bool true := g157
      subst g157
      have e157 := e157 157 rfl
      refine want_none rfl ?_
      exact op_move rfl (eval_of e157) (hK _ w1 (Ext.refl _) rfl)
    | 43, ho =>
      obtain rfl := Option.some.inj ho
      have e14 : b.tmps[14]? = some (.bool false) := hmiss 14 rfl
      obtain ⟨vg, gg, eg⟩ := hdep 42 rfl
      have gg : vg = .bool true := gg
      subst gg
      have eg := eg 158 rfl
      refine want_yes rfl rfl eg ?_
      exact op_move rfl (eval_of e14) (hK _ w1 (Ext.refl _) rfl)
    | 44, ho =>
      obtain rfl := Option.some.inj ho
      obtain ⟨v159, g159, e159⟩ := hdep 43 rfl
      have g159 : v159 = .bool false := g159
      subst g159
      have e159 := e159 159 rfl
      obtain ⟨vg, gg, eg⟩ := hdep 42 rfl
      have gg : vg = .bool true := gg
      subst gg
      have eg := eg 158 rfl
      refine want_yes rfl rfl eg ?_
      exact op_run (by unfold execOp; simp [e159, Act.eval, go_sem]) (hK _ w1 (Ext.refl _) rfl)
    | 45, ho =>
      obtain rfl := Option.some.inj ho
      obtain ⟨v158, g158, e158⟩ := hdep 42 rfl
      have g158 : v158 = .bool true := g158
      subst g158
      have e158 := e158 158 rfl
      obtain ⟨v160, g160, e160⟩ := hdep 44 rfl
      have g160 : v160 = .bool true := g160
      subst g160
      have e160 := e160 160 rfl
      refine want_none rfl ?_
      exact op_run (by unfold execOp; simp [e158, e160, Act.eval, go_sem]) (hK _ w1 (Ext.refl _) rfl)
    | 46, ho =>
      obtain rfl := Option.some.inj ho
      obtain ⟨v161, g161, e161⟩ := hdep 45 rfl
      have g161 : v161 = .bool true := g161
      subst g161
      have e161 := e161 161 rfl
      refine want_none rfl ?_
      exact op_move rfl (eval_of e161) (hK _ w1 (Ext.refl _) rfl)
    | 47, ho =>
      obtain rfl := Option.some.inj ho
      obtain ⟨vg, gg, eg⟩ := hdep 46 rfl
      have gg : vg = .bool true := gg
      subst gg
      have eg := eg 162 rfl
      refine want_yes rfl rfl eg ?_
      have hc : Calls Tryd.prog 29 #[.int .i64 3, .int .i64 4, .int .i64 5] w1 fun e w' => ∃ v, e = .returned v ∧ Ext w1 w' ∧ (v = .agg (boxE 3 4 5).cells.toArray) := (lawbox_any 3 4 5 (by decide) w1).mono fun e w2 ⟨h1, h2⟩ => ⟨_, h1, h2, rfl⟩
      exact op_call (G := fun v w' => v = .agg (boxE 3 4 5).cells.toArray) (vs := #[.int .i64 3, .int .i64 4, .int .i64 5]) rfl (by simp [Act.eval]) (fun _ _ => by kernel_rfl) hc (fun v w' h1 h2 => hK v w' h1 h2)
    | 48, ho =>
      obtain rfl := Option.some.inj ho
      obtain ⟨v163, g163, e163⟩ := hdep 47 rfl
      obtain rfl := g163
      have e163 := e163 163 rfl
      obtain ⟨vg, gg, eg⟩ := hdep 46 rfl
      have gg : vg = .bool true := gg
      subst gg
      have eg := eg 162 rfl
      refine want_yes rfl rfl eg ?_
      have hc : Calls Tryd.prog 24 #[.agg (boxE 3 4 5).cells.toArray] w1 fun e w' => ∃ v, e = .returned v ∧ Ext w1 w' ∧ (v = .agg (⟨3, 4⟩ : Nm).cells.toArray) := (Name_any (boxE 3 4 5) w1).mono fun e w2 ⟨h1, h2⟩ => ⟨_, h1, h2, rfl⟩
      exact op_call (G := fun v w' => v = .agg (⟨3, 4⟩ : Nm).cells.toArray) rfl (by simp [eval_of e163]) (fun _ _ => by kernel_rfl) hc (fun v w' h1 h2 => hK v w' h1 h2)
    | 49, ho =>
      obtain rfl := Option.some.inj ho
      obtain ⟨vg, gg, eg⟩ := hdep 46 rfl
      have gg : vg = .bool true := gg
      subst gg
      have eg := eg 162 rfl
      refine want_yes rfl rfl eg ?_
      have hc : Calls Tryd.prog 30 #[.int .i64 3, .int .i64 4] w1 fun e w' => ∃ v, e = .returned v ∧ Ext w1 w' ∧ (v = .agg (⟨3, 4⟩ : Nm).cells.toArray) := (lawname_any 3 4 w1).mono fun e w2 ⟨h1, h2⟩ => ⟨_, h1, h2, rfl⟩
      exact op_call (G := fun v w' => v = .agg (⟨3, 4⟩ : Nm).cells.toArray) (vs := #[.int .i64 3, .int .i64 4]) rfl (by simp [Act.eval]) (fun _ _ => by kernel_rfl) hc (fun v w' h1 h2 => hK v w' h1 h2)
    | 50, ho =>
      obtain rfl := Option.some.inj ho
      obtain ⟨v164, g164, e164⟩ := hdep 48 rfl
      obtain rfl := g164
      have e164 := e164 164 rfl
      obtain ⟨v165, g165, e165⟩ := hdep 49 rfl
      obtain rfl := g165
      have e165 := e165 165 rfl
      obtain ⟨vg, gg, eg⟩ := hdep 46 rfl
      have gg : vg = .bool true := gg
      subst gg
      have eg := eg 162 rfl
      refine want_yes rfl rfl eg ?_
      exact op_run (by unfold execOp; simp [e164, e165, Act.eval, go_sem, hn2]) (hK _ w1 (Ext.refl _) rfl)
    | 51, ho =>
      obtain rfl := Option.some.inj ho
      obtain ⟨v162, g162, e162⟩ := hdep 46 rfl
      have g162 : v162 = .bool true := g162
      subst g162
      have e162 := e162 162 rfl
      obtain ⟨v166, g166, e166⟩ := hdep 50 rfl
      have g166 : v166 = .bool true := g166
      subst g166
      have e166 := e166 166 rfl
      refine want_none rfl ?_
      exact op_run (by unfold execOp; simp [e162, e166, Act.eval, go_sem]) (hK _ w1 (Ext.refl _) rfl)
    | 52, ho =>
      obtain rfl := Option.some.inj ho
      obtain ⟨v167, g167, e167⟩ := hdep 51 rfl
      have g167 : v167 = .bool true := g167
      subst g167
      have e167 := e167 167 rfl
      refine want_none rfl ?_
      exact op_move rfl (eval_of e167) (hK _ w1 (Ext.refl _) rfl)
    | 53, ho =>
      obtain rfl := Option.some.inj ho
      have e1 : b.tmps[1]? = some (.slice AL 5 5) := hmiss 1 rfl
      obtain ⟨vg, gg, eg⟩ := hdep 52 rfl
      have gg : vg = .bool true := gg
      subst gg
      have eg := eg 168 rfl
      refine want_yes rfl rfl eg ?_
      exact op_move rfl (eval_of e1) (hK _ w1 (Ext.refl _) rfl)
    | 54, ho =>
      obtain rfl := Option.some.inj ho
      have e1 : b.tmps[1]? = some (.slice AL 5 5) := hmiss 1 rfl
      obtain ⟨vg, gg, eg⟩ := hdep 52 rfl
      have gg : vg = .bool true := gg
      subst gg
      have eg := eg 168 rfl
      refine want_yes rfl rfl eg ?_
      exact op_move rfl (eval_of e1) (hK _ w1 (Ext.refl _) rfl)
    | 55, ho =>
      obtain rfl := Option.some.inj ho
      obtain ⟨v169, g169, e169⟩ := hdep 53 rfl
      have g169 : v169 = .slice AL 5 5 := g169
      subst g169
      have e169 := e169 169 rfl
      obtain ⟨v170, g170, e170⟩ := hdep 54 rfl
      have g170 : v170 = .slice AL 5 5 := g170
      subst g170
      have e170 := e170 170 rfl
      obtain ⟨vg, gg, eg⟩ := hdep 52 rfl
      have gg : vg = .bool true := gg
      subst gg
      have eg := eg 168 rfl
      refine want_yes rfl rfl eg ?_
      have hc : Calls Tryd.prog 23 #[.slice AL 5 5, .slice AL 5 5] w1 fun e w' => ∃ v, e = .returned v ∧ Ext w1 w' ∧ (v = .bool true) := (equal_known AL AL 5 5 5 5 sl0 sl0 w1 (HL.out.ext hx) (HL.out.ext hx) rfl rfl (by decide) (by decide) true (by decide +kernel)).mono fun e w2 ⟨h1, h2⟩ => ⟨_, h1, h2, rfl⟩
      exact op_call (G := fun v w' => v = .bool true) rfl (by simp [eval_of e169, eval_of e170]) (fun _ _ => by kernel_rfl) hc (fun v w' h1 h2 => hK v w' h1 h2)
    | 56, ho =>
      obtain rfl := Option.some.inj ho
      obtain ⟨v168, g168, e168⟩ := hdep 52 rfl
      have g168 : v168 = .bool true := g168
      subst g168
      have e168 := e168 168 rfl
      obtain ⟨v171, g171, e171⟩ := hdep 55 rfl
      obtain rfl := g171
      have e171 := e171 171 rfl
      refine want_none rfl ?_
      exact op_run (by unfold execOp; simp [e168, e171, Act.eval, go_sem]) (hK _ w1 (Ext.refl _) rfl)
    | 57, ho =>
      obtain rfl := Option.some.inj ho
      obtain ⟨v172, g172, e172⟩ := hdep 56 rfl
      have g172 : v172 = .bool true := g172
      subst g172
      have e172 := e172 172 rfl
      refine want_none rfl ?_
      exact op_move rfl (eval_of e172) (hK _ w1 (Ext.refl _) rfl)
    | 58, ho =>
      obtain rfl := Option.some.inj ho
      have e1 : b.tmps[1]? = some (.slice AL 5 5) := hmiss 1 rfl
      obtain ⟨vg, gg, eg⟩ := hdep 57 rfl
      have gg : vg = .bool true := gg
      subst gg
      have eg := eg 173 rfl
      refine want_yes rfl rfl eg ?_
      exact op_move rfl (eval_of e1) (hK _ w1 (Ext.refl _) rfl)
    | 59, ho =>
      obtain rfl := Option.some.inj ho
      have e2 : b.tmps[2]? = some (.slice AM 6 cM) := hmiss 2 rfl
      obtain ⟨vg, gg, eg⟩ := hdep 57 rfl
      have gg : vg = .bool true := gg
      subst gg
      have eg := eg 173 rfl
      refine want_yes rfl rfl eg ?_
      exact op_move rfl (eval_of e2) (hK _ w1 (Ext.refl _) rfl)
    | 60, ho =>
      obtain rfl := Option.some.inj ho
      obtain ⟨v174, g174, e174⟩ := hdep 58 rfl
      have g174 : v174 = .slice AL 5 5 := g174
      subst g174
      have e174 := e174 174 rfl
      obtain ⟨v175, g175, e175⟩ := hdep 59 rfl
      have g175 : v175 = .slice AM 6 cM := g175
      subst g175
      have e175 := e175 175 rfl
      obtain ⟨vg, gg, eg⟩ := hdep 57 rfl
      have gg : vg = .bool true := gg
      subst gg
      have eg := eg 173 rfl
      refine want_yes rfl rfl eg ?_
      have hc : Calls Tryd.prog 23 #[.slice AL 5 5, .slice AM 6 cM] w1 fun e w' => ∃ v, e = .returned v ∧ Ext w1 w' ∧ (v = .bool false) := (equal_known AL AM 5 cM 5 6 sl0 sm0 w1 (HL.out.ext hx) (HM.out.ext hx) rfl rfl (by decide) (by decide) false (by decide +kernel)).mono fun e w2 ⟨h1, h2⟩ => ⟨_, h1, h2, rfl⟩
      exact op_call (G := fun v w' => v = .bool false) rfl (by simp [eval_of e174, eval_of e175]) (fun _ _ => by kernel_rfl) hc (fun v w' h1 h2 => hK v w' h1 h2)
    | 61, ho =>
      obtain rfl := Option.some.inj ho
      obtain ⟨v176, g176, e176⟩ := hdep 60 rfl
      obtain rfl := g176
      have e176 := e176 176 rfl
      obtain ⟨vg, gg, eg⟩ := hdep 57 rfl
      have gg : vg = .bool true := gg
      subst gg
      have eg := eg 173 rfl
      refine want_yes rfl rfl eg ?_
      exact op_run (by unfold execOp; simp [e176, Act.eval, go_sem]) (hK _ w1 (Ext.refl _) rfl)
    | 62, ho =>
      obtain rfl := Option.some.inj ho
      obtain ⟨v173, g173, e173⟩ := hdep 57 rfl
      have g173 : v173 = .bool true := g173
      subst g173
      have e173 := e173 173 rfl
      obtain ⟨v177, g177, e177⟩ := hdep 61 rfl
      have g177 : v177 = .bool true := g177
      subst g177
      have e177 := e177 177 rfl
      refine want_none rfl ?_
      exact op_run (by unfold execOp; simp [e173, e177, Act.eval, go_sem]) (hK _ w1 (Ext.refl _) rfl)
    | 63, ho =>
      obtain rfl := Option.some.inj ho
      obtain ⟨v178, g178, e178⟩ := hdep 62 rfl
      have g178 : v178 = .bool true := g178
      subst g178
      have e178 := e178 178 rfl
      refine want_none rfl ?_
      exact op_assign rfl (eval_of e178) (hK _ w1 (Ext.refl _) rfl)
    | i + 64, ho => cases ho
  · intro V w9 hx hg
    have g0 : V 0 = .bool true := hg 0 (by decide)
    have g1 : V 1 = .bool true := hg 1 (by decide)
    have g2 : V 2 = .bool true := hg 2 (by decide)
    have g3 : V 3 = .bool true := hg 3 (by decide)
    have g4 : V 4 = .bool true := hg 4 (by decide)
    have g5 : V 5 = .bool true := hg 5 (by decide)
    have g6 : V 6 = .bool true := hg 6 (by decide)
    have g7 : V 7 = .bool true := hg 7 (by decide)
    have g8 : V 8 = .int .i64 2 := hg 8 (by decide)
    have g9 : V 9 = .bool true := hg 9 (by decide)
    have g10 : V 10 = .bool true := hg 10 (by decide)
    have g11 : V 11 = .bool true := hg 11 (by decide)
    have g12 : V 12 = .agg (⟨1, 3⟩ : Nm).cells.toArray := hg 12 (by decide)
    have g14 : V 14 = .bool true := hg 14 (by decide)
    have g15 : V 15 = .bool true := hg 15 (by decide)
    have g16 : V 16 = .bool true := hg 16 (by decide)
    have g17 : V 17 = .int .i64 1 := hg 17 (by decide)
    have g18 : V 18 = .bool true := hg 18 (by decide)
    have g19 : V 19 = .bool true := hg 19 (by decide)
    have g20 : V 20 = .bool true := hg 20 (by decide)
    have g21 : V 21 = .int .i64 0 := hg 21 (by decide)
    have g22 : V 22 = .bool true := hg 22 (by decide)
    have g23 : V 23 = .bool true := hg 23 (by decide)
    have g24 : V 24 = .bool true := hg 24 (by decide)
    have g25 : V 25 = .int .i64 3 := hg 25 (by decide)
    have g26 : V 26 = .bool true := hg 26 (by decide)
    have g27 : V 27 = .bool true := hg 27 (by decide)
    have g28 : V 28 = .bool true := hg 28 (by decide)
    have g29 : V 29 = .int .i64 1 := hg 29 (by decide)
    have g30 : V 30 = .bool true := hg 30 (by decide)
    have g31 : V 31 = .bool true := hg 31 (by decide)
    have g32 : V 32 = .bool true := hg 32 (by decide)
    have g33 : V 33 = .bool true := hg 33 (by decide)
    have g34 : V 34 = .bool true := hg 34 (by decide)
    have g35 : V 35 = .bool true := hg 35 (by decide)
    have g36 : V 36 = .int .i64 3 := hg 36 (by decide)
    have g37 : V 37 = .bool true := hg 37 (by decide)
    have g38 : V 38 = .bool true := hg 38 (by decide)
    have g39 : V 39 = .bool true := hg 39 (by decide)
    have g40 : V 40 = .bool true := hg 40 (by decide)
    have g41 : V 41 = .bool true := hg 41 (by decide)
    have g42 : V 42 = .bool true := hg 42 (by decide)
    have g43 : V 43 = .bool false := hg 43 (by decide)
    have g44 : V 44 = .bool true := hg 44 (by decide)
    have g45 : V 45 = .bool true := hg 45 (by decide)
    have g46 : V 46 = .bool true := hg 46 (by decide)
    have g50 : V 50 = .bool true := hg 50 (by decide)
    have g51 : V 51 = .bool true := hg 51 (by decide)
    have g52 : V 52 = .bool true := hg 52 (by decide)
    have g53 : V 53 = .slice AL 5 5 := hg 53 (by decide)
    have g54 : V 54 = .slice AL 5 5 := hg 54 (by decide)
    have g56 : V 56 = .bool true := hg 56 (by decide)
    have g57 : V 57 = .bool true := hg 57 (by decide)
    have g58 : V 58 = .slice AL 5 5 := hg 58 (by decide)
    have g59 : V 59 = .slice AM 6 cM := hg 59 (by decide)
    have g61 : V 61 = .bool true := hg 61 (by decide)
    have g62 : V 62 = .bool true := hg 62 (by decide)
    have g63 : V 63 = .bool true := hg 63 (by decide)
    have g13 := hg 13 (by decide)
    have g47 := hg 47 (by decide)
    have g48 := hg 48 (by decide)
    have g49 := hg 49 (by decide)
    have g55 := hg 55 (by decide)
    have g60 := hg 60 (by decide)
    simp only [List.length_cons, List.length_nil, fillAllN, dstOf, Act.put, List.getElem?_toArray, List.getElem?_cons_zero, List.getElem?_cons_succ, Option.bind_some, g0, g1, g2, g3, g4, g5, g6, g7, g8, g9, g10, g11, g12, g14, g15, g16, g17, g18, g19, g20, g21, g22, g23, g24, g25, g26, g27, g28, g29, g30, g31, g32, g33, g34, g35, g36, g37, g38, g39, g40, g41, g42, g43, g44, g45, g46, g50, g51, g52, g53, g54, g56, g57, g58, g59, g61, g62, g63, List.setIfInBounds_toArray, List.set_cons_zero, List.set_cons_succ]
    clear g0 g1 g2 g3 g4 g5 g6 g7 g8 g9 g10 g11 g12 g14 g15 g16 g17 g18 g19 g20 g21 g22 g23 g24 g25 g26 g27 g28 g29 g30 g31 g32 g33 g34 g35 g36 g37 g38 g39 g40 g41 g42 g43 g44 g45 g46 g50 g51 g52 g53 g54 g56 g57 g58 g59 g61 g62 g63 hg
    go_wp2_with fail
    go_ret
    exact ⟨rfl, HX.out.trans hx⟩
end Go.Proofs.YtcfebfblmmbeaaaDoor

/- History, plainly: the list in another order, some edits twice; the greatest number of a site; loops that count. -/
namespace Go.Proofs.YtcfebfblmmbeaaaDoor
open Go Go.RowKit

def mixAt (l : List Ed) (turn twice i : Nat) : List Ed := (l[(l.length - 1 - i + turn) % l.length]?).toList ++ (if i % 3 = twice % 3 then (l[(i + twice) % l.length]?).toList else [])
def mixL (l : List Ed) (turn twice k : Nat) : List Ed := (List.range k).flatMap (mixAt l turn twice)
theorem mixL_succ (l : List Ed) (turn twice k : Nat) : mixL l turn twice (k + 1) = mixL l turn twice k ++ mixAt l turn twice k := by
  unfold mixL
  rw [List.range_succ, List.flatMap_append]
  simp
theorem mixAt_len (l : List Ed) (turn twice k : Nat) : (mixAt l turn twice k).length ≤ 2 := by
  unfold mixAt
  rw [List.length_append]
  have h : ∀ o : Option Ed, o.toList.length ≤ 1 := fun o => by cases o <;> simp
  have h1 := h l[(l.length - 1 - k + turn) % l.length]?
  have h2 := h l[(k + twice) % l.length]?
  split <;> simp <;> omega
theorem mixL_len (l : List Ed) (turn twice : Nat) : ∀ k, (mixL l turn twice k).length ≤ 2 * k
  | 0 => by simp [mixL]
  | k + 1 => by
    rw [mixL_succ, List.length_append]
    have := mixL_len l turn twice k
    have := mixAt_len l turn twice k
    omega
theorem mixL_mem (l : List Ed) (turn twice : Nat) (x : Ed) : x ∈ l ↔ x ∈ mixL l turn twice l.length := by
  have hin : ∀ (o : Option Ed) (j : Nat), o = l[j]? → ∀ y, y ∈ o.toList → y ∈ l := fun o j e y hy => by
    subst e
    rw [Option.mem_toList] at hy
    exact List.mem_of_getElem? hy
  constructor
  · intro h
    obtain ⟨j, hj⟩ := List.getElem?_of_mem h
    have hjl := (List.getElem?_eq_some_iff.1 hj).1
    obtain ⟨i, hi, he⟩ := turn_all (t := turn) hjl
    unfold mixL
    rw [List.mem_flatMap]
    refine ⟨i, List.mem_range.2 hi, ?_⟩
    unfold mixAt
    rw [he, hj]
    simp
  · intro h
    unfold mixL at h
    rw [List.mem_flatMap] at h
    obtain ⟨i, _, hi⟩ := h
    unfold mixAt at hi
    rcases List.mem_append.1 hi with h1 | h1
    · exact hin _ _ rfl x h1
    · split at h1
      · exact hin _ _ rfl x h1
      · cases h1
/-- The two steps of one place. -/
theorem mixL_step {l : List Ed} {turn twice k : Nat} {y z : Ed} (hy : l[(l.length - 1 - k + turn) % l.length]? = some y) (hz : l[(k + twice) % l.length]? = some z) :
    mixL l turn twice (k + 1) = if k % 3 = twice % 3 then (mixL l turn twice k ++ [y]) ++ [z] else mixL l turn twice k ++ [y] := by
  rw [mixL_succ]
  unfold mixAt
  rw [hy, hz]
  split <;> simp
theorem IsForks.len {l : List Ed} {f : List Nm} (h : IsForks l f) : f.length ≤ l.length := by
  have h2 := nodup_le (l := f) (m := l.map nmE) (h.srt.nodup ordN) (fun n hn => by obtain ⟨x, _, ⟨h1, _, h3⟩, _⟩ := (h.mem n).1 hn; exact List.mem_map.2 ⟨x, h1, h3⟩)
  rwa [List.length_map] at h2
/-- The greatest number of a site; 0 if there is none above it. -/
def lastS (s : Int) (b : Int) (x : Ed) : Int := if x.st.site = s then max b x.st.seq else b
def lastE (s : Int) (l : List Ed) : Int := l.foldl (lastS s) 0
theorem lastE_snoc (s : Int) (l : List Ed) (x : Ed) : lastE s (l ++ [x]) = lastS s (lastE s l) x := by
  unfold lastE; rw [List.foldl_append]; rfl
theorem last_le (s : Int) : ∀ (l : List Ed) (b : Int), b ≤ l.foldl (lastS s) b ∧ ∀ y, y ∈ l → y.st.site = s → y.st.seq ≤ l.foldl (lastS s) b
  | [], b => ⟨Int.le_refl _, fun _ h => (by cases h)⟩
  | x :: l, b => by
    rw [List.foldl_cons]
    obtain ⟨h1, h2⟩ := last_le s l (lastS s b x)
    have h3 : b ≤ lastS s b x := by unfold lastS; split <;> omega
    refine ⟨by omega, fun y hy he => ?_⟩
    rcases List.mem_cons.1 hy with rfl | hy
    · have h4 : y.st.seq ≤ lastS s b y := by unfold lastS; rw [if_pos he]; omega
      omega
    · exact h2 y hy he
theorem lastE_nonneg (s : Int) (l : List Ed) : 0 ≤ lastE s l := (last_le s l 0).1
theorem lastE_top (s : Int) (l : List Ed) : ∀ y, y ∈ l → y.st.site = s → y.st.seq ≤ lastE s l := (last_le s l 0).2
/-- How many of a list say yes. -/
def cntB {α : Type} (p : α → Bool) (l : List α) : Nat := (l.filter p).length
theorem cntB_snoc {α : Type} (p : α → Bool) (l : List α) (x : α) : cntB p (l ++ [x]) = cntB p l + (if p x then 1 else 0) := by
  unfold cntB
  rw [List.filter_append, List.length_append]
  cases h : p x <;> simp [h]
theorem cntB_le {α : Type} (p : α → Bool) (l : List α) : cntB p l ≤ l.length := List.length_filter_le _ _
/-- An edit occurs once in a list without repetitions. -/
theorem cntB_one {l : List Ed} (hd : l.Nodup) {v : Ed} (hv : v ∈ l) : cntB (fun x => decide (x = v)) l = 1 := by
  induction l with
  | nil => cases hv
  | cons x xs ih =>
    rw [List.nodup_cons] at hd
    unfold cntB
    rw [List.filter_cons]
    by_cases hx : x = v
    · subst hx
      have : xs.filter (fun y => decide (y = x)) = [] := by
        rw [List.filter_eq_nil_iff]
        intro y hy
        simp only [decide_eq_true_eq]
        rintro rfl
        exact hd.1 hy
      rw [if_pos (by simp), List.length_cons, this]
      rfl
    · rw [if_neg (by simpa using hx)]
      exact ih hd.2 ((List.mem_cons.1 hv).resolve_left (Ne.symm hx))
end Go.Proofs.YtcfebfblmmbeaaaDoor

/- History, plainly: an undo with a new number, and its undo: what HistoryUndoes asks. -/
namespace Go.Proofs.YtcfebfblmmbeaaaDoor
open Go Go.RowKit

def newU (site seq of : Int) : Ed := ⟨⟨4000, 1000000, site, seq⟩, 6, zeroBx, zeroPt, 0, 0, of⟩
theorem newU_formed {site seq : Int} (of : Int) (h1 : 1 ≤ site ∧ site ≤ 8) (h2 : 1 ≤ seq ∧ seq ≤ 1000) : formedE (newU site seq of) = true := by
  rw [formedE_def]
  have hv : validS (newU site seq of).st = true := (validS_iff _).2 ⟨(by show (0 : Int) ≤ 4000 ∧ (4000 : Int) ≤ 4000; omega), (by show (1 : Int) ≤ 1000000 ∧ (1000000 : Int) ≤ 1000000; omega), h1, h2⟩
  have e : (newU site seq of).kind = 6 := rfl
  rw [hv, e]
  have hb : (newU site seq of).box = zeroBx := rfl
  have ha : (newU site seq of).at_ = zeroPt := rfl
  have ht : (newU site seq of).turn = 0 := rfl
  have hc : (newU site seq of).cell = 0 := rfl
  have h16 : usesF 6 16 = true := rfl
  rw [hb, ha, ht, hc, h16]
  simp
section
variable {l a : List Ed} {x : Ed}
theorem newU_undo (ha : IsAct l a) (hx : x ∈ a) (hl : lastE x.st.site l ≤ 990) : NewUndo l x (newU x.st.site (lastE x.st.site l + 1) x.st.seq) := by
  have hA := (ha.mem x).1 hx
  have hf := formed_st hA.1.2.1
  have h0 := lastE_nonneg x.st.site l
  exact ⟨newU_formed _ hf.2.2.1 ⟨by omega, by omega⟩, rfl, rfl, rfl, fun y hy hs => by
    have := lastE_top x.st.site l y hy hs
    show y.st.seq < lastE x.st.site l + 1
    omega, hA⟩
theorem newU_back (ha : IsAct l a) (hx : x ∈ a) (hl : lastE x.st.site l ≤ 990) : formedE (newU x.st.site (lastE x.st.site l + 2) (lastE x.st.site l + 1)) = true := by
  have hA := (ha.mem x).1 hx
  have hf := formed_st hA.1.2.1
  have h0 := lastE_nonneg x.st.site l
  exact newU_formed _ hf.2.2.1 ⟨by omega, by omega⟩
theorem undo_hit {u : Ed} (h : NewUndo l x u) {b : List Ed} (hb : IsAct (l ++ [u]) b) : x ∉ b := fun hx => ((hb.mem x).1 hx).2 h.undone
theorem undo_others {u : Ed} (ha : IsAct l a) (h : NewUndo l x u) {b : List Ed} (hb : IsAct (l ++ [u]) b) {y : Ed} (hy : y ∈ a) (hk : x.kind ≠ 6) : decide (y ∈ b) = !decide (y = x) := by
  by_cases e : y = x
  · subst e
    rw [decide_eq_false (undo_hit h hb), decide_eq_true rfl]; rfl
  · rw [decide_eq_true ((hb.mem y).2 (h.actOther hk ((ha.mem y).1 hy) e)), decide_eq_false e]; rfl
theorem undo_stat {u : Ed} (h : NewUndo l x u) {k : Int} {n : Nm} (hs : StatIs (l ++ [u]) (nmE x) k n) : k = 2 ∧ n = nmE u := by
  have hx : SetP (l ++ [u]) x := (h.set x).2 (.inl h.act.1)
  have hq := (formed_st h.frm).2.2.2.1
  refine hs.uniq (.inr (.inr ⟨x, u.st.seq, hx, rfl, h.by_, .inr ⟨by omega, rfl, ?_⟩⟩))
  have := h.site
  show nmE u = ⟨(nmE x).site, u.st.seq⟩
  unfold nmE
  rw [this]
theorem undo_count {u v : Ed} (h : NewUndo l x u) (hf : formedE v = true) (hk : v.kind = 6) (hs : v.st.site = x.st.site) (hz : v.size = u.st.seq) (hq : v.st.seq = u.st.seq + 1) {c : List Ed} (ha : IsAct l a) (hc : IsAct ((l ++ [u]) ++ [v]) c) :
    c.length = a.length + 1 ∧ cntB (fun y => decide (y = v)) c = 1 ∧ ∀ y, y ∈ c → y ≠ v → y ∈ a := by
  obtain ⟨h1, h2, h3⟩ := h.count hf hk hs hz hq ha hc
  exact ⟨h2, cntB_one (hc.srt.nodup ordE) ((h3 v).2 (.inr rfl)), fun y hy hn => ((h3 y).1 hy).resolve_right hn⟩
theorem lastE_step {s : Int} {k : Nat} {y : Ed} (hy : l[k]? = some y) : lastE s (l.take (k + 1)) = lastS s (lastE s (l.take k)) y := by
  rw [take_snocR hy, lastE_snoc]
end
end Go.Proofs.YtcfebfblmmbeaaaDoor

/- Generic: a region that draws its order and in which one operation (number J) changes what others made before it; appends as operations of such a region. -/
namespace Go.Proofs.YtcfebfblmmbeaaaDoor
open Go Go.RowKit

section
variable {P : Program}
/-- Every edge that binds goes back. -/
def Back2 (ops : Array Oper) : Prop := ∀ (i : Nat) (o : Oper), ops[i]? = some o → ∀ e, e ∈ o.after → Region.binds .any e = true → e.on < i
def backB2 (ops : Array Oper) : Bool := (List.range ops.size).all fun i => match ops[i]? with | some o => o.after.all fun e => !(Region.binds .any e) || decide (e.on < i) | none => true
theorem backB2_spec {ops : Array Oper} (h : backB2 ops = true) : Back2 ops := fun i o ho e he hbd => by
  unfold backB2 at h
  simp only [List.all_eq_true, List.mem_range] at h
  have h1 := h i (Array.getElem?_eq_some_iff.1 ho).1
  rw [ho] at h1
  simp only [Array.all_eq_true] at h1
  obtain ⟨k, hk, rfl⟩ := Array.mem_iff_getElem.1 he
  have h2 := h1 k hk
  rw [hbd] at h2
  simpa using h2
theorem all_done2 {ops : Array Oper} (hb : Back2 ops) {listed : Array Bool} (hr : Region.ready .any ops listed = []) : ∀ i, i < ops.size → listed.getD i true = true := by
  intro i
  induction i using Nat.strongRecOn with
  | ind i ih =>
    intro hi
    by_cases h : listed.getD i true = true
    · exact h
    · exfalso
      have h1 : i ∈ Region.ready .any ops listed := mem_ready.2 ⟨by simpa using h, ops[i], Array.getElem?_eq_getElem hi, fun e he hbd => by
        have h2 := hb i _ (Array.getElem?_eq_getElem hi) e he hbd
        have h3 := ih e.on h2 (by omega)
        have hsz : ∀ k, listed.getD k true = true → listed.getD i true = false → k < i → listed.getD k false = true := fun k h4 h5 h6 => by
          have hil : i < listed.size := by
            by_cases h7 : i < listed.size
            · exact h7
            · simp [Array.getD, h7] at h5
          have hkl : k < listed.size := by omega
          simpa [Array.getD, hkl] using h4
        exact hsz e.on h3 (by simpa using h) h2⟩
      rw [hr] at h1
      cases h1
/-- The law by a table, guards let in. -/
theorem wp_region_tabg2 {G : Type} {Q : Exit → Act → World → Prop} {id : Nat} {a : Act} {w : World} {l : List Oper} (V : G → Nat → Value) (R : World → Array Bool → G → World → Prop) (g0 : G) (hm : P.follows .mixedOrders = true) (hs : Slots l.toArray) (hb : Back2 l.toArray)
    (h0 : R w (Array.replicate l.length false) g0 w.drew)
    (hstep : ∀ listed g w1 i o, l[i]? = some o → listed.getD i true = false → (∀ e, e ∈ o.after → Region.binds .any e = true → listed.getD e.on false = true) → R w listed g w1 →
      ∀ K : Act → World → Prop, (∀ g' w', R w (listed.setIfInBounds i true) g' w' → (∀ j, j < l.length → listed.getD j true = true → V g' j = V g j) → K ((fill l.toArray (V g) listed a).put o.dst (V g' i)) w') →
        if Region.wanted o (yielded l.toArray (fill l.toArray (V g) listed a).tmps) = true then o.wp P (fill l.toArray (V g) listed a) w1 K Q else K ((fill l.toArray (V g) listed a).put o.dst undef) w1)
    (hend : ∀ listed g w1, (∀ i, i < l.length → listed.getD i true = true) → R w listed g w1 → Q .normal (fill l.toArray (V g) listed a) w1) : (Code.region id l.toArray true).wp P Q a w := by
  refine wp_region_inv (fun listed b w1 => ∃ g, b = fill l.toArray (V g) listed a ∧ R w listed g w1) hm ⟨g0, ?_, h0⟩ ?_ ?_
  · have : ∀ n, fillN l.toArray (V g0) (Array.replicate l.length false) a n = a ∨ l.length < n := by
      intro n
      induction n with
      | zero => exact .inl rfl
      | succ n ih =>
        by_cases hn : l.length < n + 1
        · exact .inr hn
        · rcases ih with ih | ih
          · refine .inl ?_
            unfold fillN
            rw [if_neg (by simp [Array.getD]; omega), ih]
          · omega
    rcases this l.toArray.size with h | h
    · exact h.symm
    · simp at h
  · rintro listed b w1 i ⟨g, rfl, hR⟩ hi
    obtain ⟨hun, o, ho, hdeps⟩ := mem_ready.1 hi
    have ho' : l[i]? = some o := by simpa using ho
    have hi2 : i < l.toArray.size := (Array.getElem?_eq_some_iff.1 ho).1
    refine wpOp_step ho fun K hK => ?_
    refine hstep listed g w1 i o ho' hun hdeps hR K fun g' w' hR' hV => ?_
    refine hK _ _ ⟨g', ?_, hR'⟩
    have hd : dstOf l.toArray i = o.dst := by simp [dstOf, ho']
    rw [← hd, fill_congr (V' := V g') (fun j hl hj => (hV j (by simpa using hj) hl).symm), fill_put hs hi2 hun]
  · rintro listed b w1 ⟨g, rfl, hR⟩ hr
    exact hend listed g w1 (fun i hi => all_done2 hb hr i (by simpa using hi)) hR

theorem wp_region_flow {Q : Exit → Act → World → Prop} {id : Nat} {a : Act} {w : World} {l : List Oper} (J : Nat) (Good : Bool → Nat → Value → World → Prop) (hm : P.follows .mixedOrders = true) (hs : slotsB l.toArray = true) (hb : backB2 l.toArray = true) (hfit : ((List.range l.length).all fun j => match dstOf l.toArray j with | some d => decide (d < a.tmps.size) | none => true) = true)
    (hst : ∀ d i v w1 w2, Ext w1 w2 → Good d i v w1 → Good d i v w2) (hup : ∀ i v w1 w2, Good false i v w1 → Good true i v w2)
    (hstep : ∀ (i : Nat) (o : Oper), l[i]? = some o → ∀ (d : Bool) (b : Act) (w1 : World), (i = J → d = false) → Ext w w1 → (∀ d : Nat, missB l.toArray d = true → b.tmps[d]? = a.tmps[d]?) →
      (∀ j, waits o j = true → ∃ v, Good d j v w1 ∧ ∀ d, dstOf l.toArray j = some d → b.tmps[d]? = some v) →
      ∀ K : Act → World → Prop, (∀ v w', Ext w w' → (i ≠ J → Ext w1 w') → Good (decide (i = J) || d) i v w' → K (b.put o.dst v) w') → if Region.wanted o (yielded l.toArray b.tmps) = true then o.wp P b w1 K Q else K (b.put o.dst undef) w1)
    (hend : ∀ (V : Nat → Value) (w1 : World), Ext w w1 → (∀ i, i < l.length → Good true i (V i) w1) → Q .normal (fillAllN l.toArray V a l.length) w1) : (Code.region id l.toArray true).wp P Q a w := by
  have hS := slotsB_spec hs
  have hB := backB2_spec hb
  refine wp_region_tabg2 (G := Nat → Value) (fun g => g) (fun w listed g w1 => Ext w w1 ∧ ∀ i, i < l.length → listed.getD i true = true → Good (listed.getD J true) i (g i) w1) (fun _ => undef) hm hS hB ?_ ?_ ?_
  · refine ⟨(Ext.refl _).drew, fun i hi h => ?_⟩
    have : (Array.replicate l.length false).getD i true = false := by simp [Array.getD, hi]
    rw [this] at h
    cases h
  · intro listed g w1 i o ho hun hdep hR K hK
    have hil : i < l.length := (List.getElem?_eq_some_iff.1 ho).1
    refine hstep i o ho (listed.getD J true) (fill l.toArray g listed a) w1 (fun e => by subst e; exact hun) hR.1 (fun d hd => fill_miss (fun i hi _ => missB_spec hd i hi)) (fun j hj => ?_) K (fun v w' hx hx1 hg => ?_)
    · obtain ⟨e, he, rfl, hbd⟩ := waits_spec hj
      have h1 := getD_up (hdep e he hbd)
      have h2 : e.on < l.length := by have := hB i o (by simpa using ho) e he hbd; omega
      refine ⟨g e.on, hR.2 _ h2 h1, fun d hd => fill_hit hS (by simpa using h2) h1 hd ?_⟩
      rw [List.all_eq_true] at hfit
      have h3 := hfit e.on (List.mem_range.2 h2)
      rw [hd] at h3
      simpa using h3
    · have h := hK (fun k => if k = i then v else g k) w' ⟨hx, fun j hj hl => ?_⟩ (fun j hj hl => ?_)
      · simpa using h
      · by_cases hiJ : i = J
        · subst hiJ
          have e1 : (listed.setIfInBounds i true).getD i true = true := by
            simp only [Array.getD]
            split <;> simp
          rw [e1]
          rw [hun] at hR hg
          by_cases hji : j = i
          · subst hji; simpa using hg
          · simp only [if_neg hji]
            rw [getD_set_ne true (Ne.symm hji)] at hl
            exact hup _ _ _ _ (hR.2 j hj hl)
        · rw [getD_set_ne true hiJ]
          by_cases hji : j = i
          · subst hji; simpa [hiJ] using hg
          · simp only [if_neg hji]
            rw [getD_set_ne true (Ne.symm hji)] at hl
            exact hst _ _ _ _ _ (hx1 hiJ) (hR.2 j hj hl)
      · have hne : j ≠ i := fun e => by subst e; rw [hl] at hun; cases hun
        simp only [if_neg hne]
  · intro listed g w1 hall hR
    rw [fill_done hall]
    refine hend g w1 hR.1 (fun i hi => ?_)
    have h := hR.2 i hi (hall i hi)
    cases hd : listed.getD J true
    · rw [hd] at h; exact hup _ _ _ _ h
    · rw [hd] at h; exact h
variable {o : Oper} {b : Act} {w1 : World} {K : Act → World → Prop} {Q : Exit → Act → World → Prop}
theorem op_callG {f : FuncId} {args : Array Operand} {ts : Array TypeId} {vs : Array Value} {G : Value → World → Prop} (ho : o.op = .call { callee := .value (.func f), args := args, argTypes := ts }) (ha : args.map b.eval = vs) (he : ∀ args w, (callFunc f args).run P w = .ok (.enter f args) w)
    (hc : Calls P f vs w1 fun e w' => ∃ v, e = .returned v ∧ G v w') (h : ∀ v w', G v w' → K (b.put o.dst v) w') : o.wp P b w1 K Q := by
  have hr : (execOp b.eval o).run P w1 = .ok (.enter f vs) w1 := by
    unfold execOp
    simp [ho, resolve, invoke, Deferred.ofValue, Act.eval, ha, he]
  unfold Oper.wp
  rw [hr, Oper.upon_enter]
  refine hc.mono ?_
  rintro e w' ⟨v, rfl, hg⟩
  exact h v w' hg
end
section
variable {P : Program}
/-- Operation j waits for i, through others too. -/
def needB (ops : Array Oper) : Nat → Nat → Nat → Bool
  | 0, _, _ => false
  | f + 1, j, i => match ops[j]? with
    | some o => o.after.any fun e => Region.binds .any e && (e.on == i || needB ops f e.on i)
    | none => false
def ClosedL (ops : Array Oper) (listed : Array Bool) : Prop := ∀ (j : Nat) (o : Oper), ops[j]? = some o → listed.getD j true = true → ∀ e, e ∈ o.after → Region.binds .any e = true → listed.getD e.on true = true
theorem need_done {ops : Array Oper} {listed : Array Bool} (hc : ClosedL ops listed) : ∀ (f j i : Nat), needB ops f j i = true → listed.getD j true = true → listed.getD i true = true
  | 0, _, _, h, _ => by cases h
  | f + 1, j, i, h, hj => by
    unfold needB at h
    split at h
    next o ho =>
      simp only [Array.any_eq_true, Bool.and_eq_true, Bool.or_eq_true, beq_iff_eq] at h
      obtain ⟨k, hk, hb, h1⟩ := h
      have h2 := hc j o ho hj _ (Array.getElem_mem hk) hb
      rcases h1 with h1 | h1
      · rw [← h1]; exact h2
      · exact need_done hc f _ i h1 h2
    next => cases h
theorem wp_region_fin {Q : Exit → Act → World → Prop} {id : Nat} {a : Act} {w : World} {l : List Oper} (J : Nat) (Good : Bool → Nat → Value → World → Prop) (k0 dk : Nat) (Fin : Value → World → Prop) (hm : P.follows .mixedOrders = true) (hs : slotsB l.toArray = true) (hb : backB2 l.toArray = true) (hfit : ((List.range l.length).all fun j => match dstOf l.toArray j with | some d => decide (d < a.tmps.size) | none => true) = true)
    (hJl : J < l.length) (hdk : dstOf l.toArray k0 = some dk) (hJk : ∃ o, l[J]? = some o ∧ waits o k0 = true)
    (hst : ∀ d i v w1 w2, Ext w1 w2 → Good d i v w1 → Good d i v w2) (hup : ∀ i v w1 w2, Good false i v w1 → Good true i v w2) (hF : ∀ v w1 w2, Ext w1 w2 → Fin v w1 → Fin v w2)
    (hstep : ∀ (i : Nat) (o : Oper), l[i]? = some o → ∀ (d : Bool) (b : Act) (w1 : World), (i = J → d = false) → (needB l.toArray l.length J i = true → d = false) → Ext w w1 → (∀ d : Nat, missB l.toArray d = true → b.tmps[d]? = a.tmps[d]?) →
      (∀ j, waits o j = true → ∃ v, Good d j v w1 ∧ ∀ d, dstOf l.toArray j = some d → b.tmps[d]? = some v) →
      ∀ K : Act → World → Prop, (∀ v w', Ext w w' → (i ≠ J → Ext w1 w') → (i = J → ∀ v0, b.tmps[dk]? = some v0 → Fin v0 w') → Good (decide (i = J) || d) i v w' → K (b.put o.dst v) w') → if Region.wanted o (yielded l.toArray b.tmps) = true then o.wp P b w1 K Q else K (b.put o.dst undef) w1)
    (hend : ∀ (V : Nat → Value) (w1 : World), Ext w w1 → (∀ i, i < l.length → Good true i (V i) w1) → Fin (V k0) w1 → Q .normal (fillAllN l.toArray V a l.length) w1) : (Code.region id l.toArray true).wp P Q a w := by
  have hS := slotsB_spec hs
  have hB := backB2_spec hb
  obtain ⟨oJ, hoJ, hwJ⟩ := hJk
  obtain ⟨eJ, heJ, hek, hbJ⟩ := waits_spec hwJ
  have hk0 : k0 < J := by rw [← hek]; exact hB J oJ (by simpa using hoJ) eJ heJ hbJ
  refine wp_region_tabg2 (G := Nat → Value) (fun g => g) (fun w listed g w1 => Ext w w1 ∧ (∀ i, i < l.length → listed.getD i true = true → Good (listed.getD J true) i (g i) w1) ∧ (listed.getD J true = true → listed.getD k0 true = true ∧ Fin (g k0) w1) ∧ ClosedL l.toArray listed) (fun _ => undef) hm hS hB ?_ ?_ ?_
  · refine ⟨(Ext.refl _).drew, fun i hi h => ?_, fun h => ?_, fun j o ho h => ?_⟩
    · have : (Array.replicate l.length false).getD i true = false := by simp [Array.getD, hi]
      rw [this] at h
      cases h
    · have : (Array.replicate l.length false).getD J true = false := by simp [Array.getD, hJl]
      rw [this] at h
      cases h
    · have hj := (Array.getElem?_eq_some_iff.1 ho).1
      have : (Array.replicate l.length false).getD j true = false := by simp only [List.size_toArray] at hj; simp [Array.getD, hj]
      rw [this] at h
      cases h
  · intro listed g w1 i o ho hun hdep hR K hK
    have hil : i < l.length := (List.getElem?_eq_some_iff.1 ho).1
    refine hstep i o ho (listed.getD J true) (fill l.toArray g listed a) w1 (fun e => by subst e; exact hun) (fun hn => by
      cases hJ : listed.getD J true
      · rfl
      · have h1 := need_done hR.2.2.2 _ _ _ hn hJ
        rw [hun] at h1
        cases h1) hR.1 (fun d hd => fill_miss (fun i hi _ => missB_spec hd i hi)) (fun j hj => ?_) K (fun v w' hx hx1 hfin hg => ?_)
    · obtain ⟨e, he, rfl, hbd⟩ := waits_spec hj
      have h1 := getD_up (hdep e he hbd)
      have h2 : e.on < l.length := by have := hB i o (by simpa using ho) e he hbd; omega
      refine ⟨g e.on, hR.2.1 _ h2 h1, fun d hd => fill_hit hS (by simpa using h2) h1 hd ?_⟩
      rw [List.all_eq_true] at hfit
      have h3 := hfit e.on (List.mem_range.2 h2)
      rw [hd] at h3
      simpa using h3
    · have h := hK (fun k => if k = i then v else g k) w' ⟨hx, fun j hj hl => ?_, fun hl => ?_, fun j o' ho' hl e he hbd => ?_⟩ (fun j hj hl => ?_)
      · simpa using h
      · by_cases hiJ : i = J
        · subst hiJ
          have e1 : (listed.setIfInBounds i true).getD i true = true := by
            simp only [Array.getD]
            split <;> simp
          rw [e1]
          rw [hun] at hR hg
          by_cases hji : j = i
          · subst hji; simpa using hg
          · simp only [if_neg hji]
            rw [getD_set_ne true (Ne.symm hji)] at hl
            exact hup _ _ _ _ (hR.2.1 j hj hl)
        · rw [getD_set_ne true hiJ]
          by_cases hji : j = i
          · subst hji; simpa [hiJ] using hg
          · simp only [if_neg hji]
            rw [getD_set_ne true (Ne.symm hji)] at hl
            exact hst _ _ _ _ _ (hx1 hiJ) (hR.2.1 j hj hl)
      · by_cases hiJ : i = J
        · subst hiJ
          obtain rfl : oJ = o := by rw [hoJ] at ho; injection ho
          have h1 := getD_up (hdep eJ heJ hbJ)
          rw [hek] at h1
          have hne : k0 ≠ i := by omega
          refine ⟨by rw [getD_set_ne true (Ne.symm hne)]; exact h1, ?_⟩
          simp only [if_neg hne]
          refine hfin rfl _ (fill_hit hS (by simp; omega) h1 hdk ?_)
          rw [List.all_eq_true] at hfit
          have h3 := hfit k0 (List.mem_range.2 (by omega))
          rw [hdk] at h3
          simpa using h3
        · rw [getD_set_ne true hiJ] at hl
          have h2 := hR.2.2.1 hl
          have hne : i ≠ k0 := fun e => by subst e; rw [hun] at h2; cases h2.1
          refine ⟨by rw [getD_set_ne true hne]; exact h2.1, ?_⟩
          simp only [if_neg (Ne.symm hne)]
          exact hF _ _ _ (hx1 hiJ) h2.2
      · have hs1 : ∀ k, listed.getD k true = true → (listed.setIfInBounds i true).getD k true = true := fun k hk => by
          by_cases hki : i = k
          · subst hki; rw [hun] at hk; cases hk
          · rw [getD_set_ne true hki]; exact hk
        by_cases hji : i = j
        · subst hji
          obtain rfl : o' = o := by rw [show l.toArray[i]? = l[i]? by simp, ho] at ho'; injection ho' with h; exact h.symm
          exact hs1 _ (getD_up (hdep e he hbd))
        · rw [getD_set_ne true hji] at hl
          exact hs1 _ (hR.2.2.2 j o' ho' hl e he hbd)
      · have hne : j ≠ i := fun e => by subst e; rw [hl] at hun; cases hun
        simp only [if_neg hne]
  · intro listed g w1 hall hR
    rw [fill_done hall]
    have hd := hall J hJl
    have h2 := hR.2
    rw [hd] at h2
    exact hend g w1 hR.1 (fun i hi => h2.1 i hi (hall i hi)) (h2.2.1 rfl).2
end
section
variable {P : Program} (w : World)
theorem run_append_of0 (base : Nat) (t ty e : TypeId) (i : TypeInfo) (size : Nat) (ht : P.underlying t = some (.slice e)) (hi : P.info? e = some i)
    (v : Value) (n : Nat) (xs : List Value) (hown : w.ownsRow base e size v n xs) (a : Addr) (c : Nat) : (Builtin.append_ #[t, t] ty #[v, .slice (some a) 0 c]).run P w = .ok v w := by
  rcases hown.2 with ⟨rfl, rfl⟩ | ⟨g, cap, cur, rfl, _, _, hnc, _⟩
  · simp [Builtin.append_, run_underlying ht, sizeOf, typeInfo, hi, Builtin.lenOf, Builtin.firstCells, loadCells, loadCellsFrom]
  · simp [Builtin.append_, run_underlying ht, sizeOf, typeInfo, hi, Builtin.lenOf, Builtin.firstCells, hnc, storeCells, loadCells, loadCellsFrom]
/-- Onto a fresh empty row: nothing that was there turns. -/
theorem run_append_zero (base : Nat) (t ty e : TypeId) (i : TypeInfo) (z : Value) (size bytes : Nat) (ht : P.underlying t = some (.slice e)) (hi : P.info? e = some i) (hz : i.zero = some z)
    (hsize : i.size = size) (hby : i.bytes = bytes) (hzs : z.cells.size = size) (hsz : 0 < size)
    (b : Nat) (hown : w.ownsRow base e size (.slice (some ⟨b, 0, none⟩) 0 0) 0 [])
    (B : Nat) (A : Option Addr) (m c : Nat) (news : List (List Value)) (hr : Sv w B size A c news) (hm : news.length = m)
    (h63 : m ≤ maxLen) (hbytes : m * bytes ≤ 140737488355328) (hbase : base ≤ w.heap.size) :
    ∃ v' w', (Builtin.append_ #[t, t] ty #[.slice (some ⟨b, 0, none⟩) 0 0, .slice A m c]).run P w = .ok v' w' ∧ w'.ownsRow base e size v' m news.flatten ∧ Ext w w' := by
  rcases A with _ | ad
  · have hn : news = [] := by
      rcases Nat.eq_zero_or_pos news.length with h0 | h0
      · exact List.eq_nil_of_length_eq_zero h0
      · obtain ⟨b, off, h, _⟩ := hr.mem h0
        cases h
    subst hn
    subst hm
    exact ⟨_, w, run_append_ofnil w base t ty e i size ht hi _ 0 [] hown c, by simpa using hown, Ext.refl _⟩
  · rcases Nat.eq_zero_or_pos m with rfl | hpos
    · have hn : news = [] := List.eq_nil_of_length_eq_zero hm
      subst hn
      exact ⟨_, w, run_append_of0 w base t ty e i size ht hi _ 0 [] hown ad c, by simpa using hown, Ext.refl _⟩
    · obtain ⟨v', w', h1, h2, _, _⟩ := run_append_sv (P := P) w base t ty e i z size bytes ht hi hz hsize hby hzs hsz _ 0 [] hown B (some ad) m c news hr hm (by omega) (by rw [Nat.zero_add]; exact hbytes) hbase
      refine ⟨v', w', h1, by simpa using h2, ?_⟩
      have hr2 := run_append_grow (P := P) (w := w) t ty e i z ht hi hz ⟨b, 0, none⟩ 0 0 [] (by simp) (fun j u hu => by simp at hu) ad m c news.flatten (by rw [hsize, flatten_length _ hr.rows.len, hm]) hr.news (by omega) (by unfold maxLen at h63; omega) (growslice_fits (by omega) (by rw [hby]; simpa using hbytes))
      rw [h1] at hr2
      injection hr2 with e1 e2
      subst e2
      exact ((Ext.refl w).drew).alloc _
end
section
variable {P : Program} {o : Oper} {b : Act} {w1 : World} {K : Act → World → Prop} {Q : Exit → Act → World → Prop}
theorem op_append_zero (s x : Operand) (t : TypeId) (ho : o.op = .call { callee := .builtin .append, args := #[s, x], argTypes := #[t, t] })
    (base : Nat) (e : TypeId) (i : TypeInfo) (z : Value) (size bytes : Nat) (ht : P.underlying t = some (.slice e)) (hi : P.info? e = some i) (hz : i.zero = some z)
    (hsize : i.size = size) (hby : i.bytes = bytes) (hzs : z.cells.size = size) (hsz : 0 < size)
    (bk : Nat) (hs : b.eval s = .slice (some ⟨bk, 0, none⟩) 0 0) (hown : w1.ownsRow base e size (.slice (some ⟨bk, 0, none⟩) 0 0) 0 [])
    (B : Nat) (A : Option Addr) (m c : Nat) (news : List (List Value)) (hx : b.eval x = .slice A m c) (hr : Sv w1 B size A c news) (hm : news.length = m)
    (h63 : m ≤ maxLen) (hbytes : m * bytes ≤ 140737488355328) (hbase : base ≤ w1.heap.size)
    (h : ∀ v' w', w'.ownsRow base e size v' m news.flatten → Ext w1 w' → K (b.put o.dst v') w') : o.wp P b w1 K Q := by
  obtain ⟨v', w', hrun, r1, r2⟩ := run_append_zero (P := P) w1 base t o.type e i z size bytes ht hi hz hsize hby hzs hsz bk hown B A m c news hr hm h63 hbytes hbase
  unfold Oper.wp
  simp [execOp, ho, resolve, invoke, builtin, hs, hx, hrun, Result.andThen]
  exact h v' w' r1 r2
end
section
variable {P : Program} {o : Oper} {b : Act} {w1 : World} {K : Act → World → Prop} {Q : Exit → Act → World → Prop}
theorem op_append_sv (s x : Operand) (t : TypeId) (ho : o.op = .call { callee := .builtin .append, args := #[s, x], argTypes := #[t, t] })
    (base : Nat) (e : TypeId) (i : TypeInfo) (z : Value) (size bytes : Nat) (ht : P.underlying t = some (.slice e)) (hi : P.info? e = some i) (hz : i.zero = some z)
    (hsize : i.size = size) (hby : i.bytes = bytes) (hzs : z.cells.size = size) (hsz : 0 < size)
    (v : Value) (n : Nat) (xs : List Value) (hs : b.eval s = v) (hown : w1.ownsRow base e size v n xs)
    (B : Nat) (A : Option Addr) (m c : Nat) (news : List (List Value)) (hx : b.eval x = .slice A m c) (hr : Sv w1 B size A c news) (hm : news.length = m)
    (h63 : n + m ≤ maxLen) (hbytes : (n + m) * bytes ≤ 140737488355328) (hbase : base ≤ w1.heap.size)
    (h : ∀ v' w', w'.ownsRow base e size v' (n + m) (xs ++ news.flatten) → w1.grownBy w' v.ownBlock → K (b.put o.dst v') w') : o.wp P b w1 K Q := by
  obtain ⟨v', w', hrun, r1, r2, _⟩ := run_append_sv (P := P) w1 base t o.type e i z size bytes ht hi hz hsize hby hzs hsz v n xs hown B A m c news hr hm h63 hbytes hbase
  unfold Oper.wp
  simp [execOp, ho, resolve, invoke, builtin, hs, hx, hrun, Result.andThen]
  exact h v' w' r1 r2
end
section
variable {P : Program} {o : Oper} {b : Act} {w1 : World} {K : Act → World → Prop} {Q : Exit → Act → World → Prop}
theorem op_buildRow (t e : TypeId) (s : Nat) (ho : o.op = .buildSlice t 1 #[(0, .tmp s)])
    (k : Nat) (hk : 0 < k) (hk2 : k ≤ 1000) (x : List Value) (hx : x.length = k) (hs : b.eval (.tmp s) = .agg x.toArray) (hu : P.underlying t = some (.slice e)) (hi : (P.info? e).map (·.size) = some k) (hz : ((P.info? e).bind (·.zero)).isSome = true)
    (h : K (b.put o.dst (.slice (some ⟨w1.heap.size, 0, none⟩) 1 1)) (w1.alloc (.cells x.toArray e))) : o.wp P b w1 K Q := by
  cases hie : P.info? e with
  | none => simp [hie] at hi
  | some ie =>
    have hsz : ie.size = k := by simpa [hie] using hi
    obtain ⟨z, hzz⟩ := Option.isSome_iff_exists.1 (by simpa [hie] using hz : (ie.zero).isSome = true)
    refine wp_buildSlice t e 1 _ ho _ ie z hu hie hzz (by rw [hsz]; omega) (by rw [hsz]; omega) ?_ h
    have hf := Great.fill_whole (s := k) hk [.agg x.toArray] ((Array.range (1 * k)).map (z.cells[· % z.cells.size]!)) (fun v hv => by
      simp only [List.mem_singleton] at hv
      subst hv
      simpa [Value.cells] using hx) (by simp)
    rw [hsz]
    simp only [List.map_toArray, List.map_cons, List.map_nil, hs]
    simpa [Value.cells] using hf
end
/-- A row owned above a base is owned above a lower one. -/
theorem own_lower {w : World} {base base' n k : Nat} {e : TypeId} {v : Value} {zs : List Value} (hb : base' ≤ base) (h : w.ownsRow base e k v n zs) : w.ownsRow base' e k v n zs := by
  rcases h.2 with h0 | ⟨g, cap, cur, e1, h1, h2⟩
  · exact ⟨h.1, .inl h0⟩
  · exact ⟨h.1, .inr ⟨g, cap, cur, e1, Nat.le_trans hb h1, h2⟩⟩
end Go.Proofs.YtcfebfblmmbeaaaDoor

/- Generic: what the form's own reach says of a slice that came in. -/
namespace Go.Proofs.YtcfebfblmmbeaaaDoor
open Go Go.RowKit Go.ChangeShapes Go.WideShapes Go.ChangeAt

theorem reach_len {H : Type} {enc : TypeId × Value → H} {P : Program} {W : World} {ts : List TypeId} {ds : List (DataW H)} (hsz : (DataW.weightsEach P ts ds).all (· ≤ reachBytes) = true) {j : Nat} {t e : TypeId} {A : Option Addr} {n c : Nat} {d : DataW H} {ps : List MemPlace}
    (ht : ts[j]? = some t) (hd : ds[j]? = some d) (hu : P.underlying t = some (.slice e)) (h : DataW.Trod enc P W 0 (fun _ => true) true t (.slice A n c) d ps) : n * P.bytesOf e ≤ reachBytes := by
  obtain ⟨fuel, hf⟩ := h
  have hf' : DataW.trod enc P W 0 (fun _ => true) true fuel t [.slice A n c] = some (d, ps) := by simpa [Value.cells] using hf
  rcases Go.Deep.open_slice hu hf' with ⟨hcs, _⟩ | ⟨a, len, cap, m, k, D, Pl, hcs, _, hl, hm, hmm, hx, _⟩
  · simp only [List.cons.injEq, and_true, Value.slice.injEq] at hcs
    obtain ⟨_, rfl, _⟩ := hcs
    simp
  · simp only [List.cons.injEq, and_true, Value.slice.injEq] at hcs
    obtain ⟨_, rfl, _⟩ := hcs
    injection hx with hx _
    subst hx
    have h1 := sized_slice hsz ht hd hu
    simp only [List.length_map, List.length_range] at h1
    exact Nat.le_trans (Nat.mul_le_mul_right _ (Nat.le_add_right _ _)) h1
end Go.Proofs.YtcfebfblmmbeaaaDoor
