/- YtcfebfblmmbeaaaDoorJb · YtcfebfblmmbeaaaDoorJbP -/
import Derived.Test.YtcfebfblmmbeaaaDoorTie
import Derived.Test.YtcfebfblmmbeaaaDoorCards
import Derived.LaidLaws
import Derived.SevenTiedAt
import Derived.Test.YtcfebfblmmbeaaaDoorZa9
/- HistoryIsOrderFree. -/
namespace Go.Proofs.YtcfebfblmmbeaaaDoor
open Go Go.RowKit

theorem tmod_nat (a b : Nat) : Int.tmod (a : Int) (b : Int) = ((a % b : Nat) : Int) := by
  rw [Int.tmod_eq_emod_of_nonneg (by omega)]; rfl
set_option maxRecDepth 100000 in
set_option maxHeartbeats 16000000 in
theorem HistoryIsOrderFree_any (A : Option Addr) (c : Nat) (l : List Ed) (turn twice : Int) (w : World) (hs : Sv w w.heap.size 17 A c (rowsE l)) (ht1 : 0 ≤ turn ∧ turn ≤ 255) (ht2 : 0 ≤ twice ∧ twice ≤ 255) (hR : RowsIn w) :
    Calls Tryd.prog 4 #[.slice A l.length c, .int .u8 turn, .int .u8 twice] w fun e w' => e = .returned (.bool true) ∧ Ext w w' := by
  have hm := mixed
  obtain ⟨tn, rfl⟩ := Int.eq_ofNat_of_zero_le ht1.1
  obtain ⟨tw, rfl⟩ := Int.eq_ofNat_of_zero_le ht2.1
  have HL := Lib.hid hs; have HR := Lib.hid hR
  have hll := hs.len
  rw [rowsE_length] at hll
  have HSN := Lib.hid (sanity_any w hR)
  clear hs hR
  go_enter Tryd.func4, Tryd.ntmps4
  go_upto_region 2 with (go_at_call 8; refine HSN.out.mono ?_; rintro e W1 ⟨rfl, xs⟩)
  have HL := Lib.hid (HL.out.ext xs); have HR := Lib.hid (HR.out.ext xs); have HX := Lib.hid xs
  clear xs HSN
  by_cases hlong : (30 : Int) < (l.length : Int)
  · go_wp2_with fail
    go_ret
    exact ⟨rfl, HX.out⟩
  by_cases hz : ((l.length : Int) == 0) = true
  · go_wp2_with fail
    go_ret
    exact ⟨rfl, HX.out⟩
  have hz0 : ((l.length : Int) == 0) = false := by simpa using hz
  have hpos : 0 < l.length := by
    have h0 : ¬ (l.length : Int) = 0 := by simpa using hz0
    omega
  have hl30 : l.length ≤ 30 := by omega
  clear hz
  go_upto_region 7 with fail
  have HWT := Lib.hid (show IntKind.i64.wrap (tn : Int) = tn by rw [IntKind.wrap_i64]; omega)
  have HWW := Lib.hid (show IntKind.i64.wrap (tw : Int) = tw by rw [IntKind.wrap_i64]; omega)
  go_loopw [9, 10] (fun mv iv wr => ∃ k : Nat, iv = .int .i64 k ∧ k ≤ l.length ∧ wr.ownsRow W1.heap.size 32 17 mv (mixL l tn tw k).length (rowsE (mixL l tn tw k)).flatten ∧ Ext W1 wr) (fun _ iv _ => l.length - (intOf iv).toNat)
  case atStart => exact ⟨0, rfl, Nat.zero_le _, World.ownsRow_nil _ _ _ _, Ext.refl _⟩
  case round =>
    obtain ⟨k, rfl, hk, ho, hx⟩ := hrel
    have HO := Lib.hid ho; have HXR := Lib.hid hx
    obtain ⟨A1, c1, rfl, _⟩ := own_form ho
    clear ho hx
    by_cases hlt : k < l.length
    · have hj1 := Nat.mod_lt (l.length - 1 - k + tn) hpos
      have hj2 := Nat.mod_lt (k + tw) hpos
      obtain ⟨y, hy⟩ : ∃ y, l[(l.length - 1 - k + tn) % l.length]? = some y := ⟨_, List.getElem?_eq_getElem hj1⟩
      obtain ⟨z, hz⟩ : ∃ z, l[(k + tw) % l.length]? = some z := ⟨_, List.getElem?_eq_getElem hj2⟩
      have HST := Lib.hid (mixL_step (turn := tn) (twice := tw) hy hz)
      have hml := mixL_len l tn tw k
      obtain ⟨b, off, rfl, hbl, hra⟩ := ed_row HL.out hy
      obtain ⟨b', off', he, hbl', hrb⟩ := ed_row HL.out hz
      injection he with he
      injection he with he1 he2
      subst he1 he2
      have HRA := Lib.hid (fun w2 (h : Ext W1 w2) => rangeAt_ext hra hbl h)
      have HRB := Lib.hid (fun w2 (h : Ext W1 w2) => rangeAt_ext hrb hbl h)
      clear hy hz hra hrb hbl hbl'
      have e1 : IntKind.i64.wrap ((l.length : Int) - 1) = ((l.length - 1 : Nat) : Int) := by rw [IntKind.wrap_i64]; omega
      have e2 : IntKind.i64.wrap (((l.length - 1 : Nat) : Int) - k) = ((l.length - 1 - k : Nat) : Int) := by rw [IntKind.wrap_i64]; omega
      have e3 : IntKind.i64.wrap (((l.length - 1 - k : Nat) : Int) + tn) = ((l.length - 1 - k + tn : Nat) : Int) := by rw [IntKind.wrap_i64]; omega
      have e4 := tmod_nat (l.length - 1 - k + tn) l.length
      have e5 : IntKind.i64.wrap ((k : Int) + tw) = ((k + tw : Nat) : Int) := by rw [IntKind.wrap_i64]; omega
      have e6 := tmod_nat (k + tw) l.length
      have e7 : Int.tmod (k : Int) 3 = ((k % 3 : Nat) : Int) := tmod_nat k 3
      have e8 : Int.tmod (tw : Int) 3 = ((tw % 3 : Nat) : Int) := tmod_nat tw 3
      have hwt := HWT.out; have hww := HWW.out
      generalize (l.length - 1 - k + tn) % l.length = j1 at e4 hj1 HRA
      generalize (k + tw) % l.length = j2 at e6 hj2 HRB
      generalize ((l.length - 1 - k + tn : Nat) : Int) = p1 at e3 e4
      generalize ((k + tw : Nat) : Int) = p2 at e5 e6
      have ha0 : 0 ≤ (j1 : Int) := by omega
      have ha1 : ¬ ((l.length : Int) ≤ (j1 : Int)) := by omega
      have hb0 : 0 ≤ (j2 : Int) := by omega
      have hb1 : ¬ ((l.length : Int) ≤ (j2 : Int)) := by omega
      generalize hmo : mixL l tn tw k = mo at HO HST hml
      have HSN := Lib.hid (svE_lit wr [y] (by simp))
      have HO3 := Lib.hid (own_ext HO.out ((Ext.refl wr).alloc (.cells (rowsE [y]).flatten.toArray 32)))
      have HX3 := Lib.hid (HXR.out.alloc (.cells (rowsE [y]).flatten.toArray 32))
      have HRX := Lib.hid (HRA.out wr HXR.out)
      go_upto_region 10 with (first
        | (with_reducible refine wpList_load_mid rfl 32 (.tmp 40) rfl b (off + j1 * 17) rfl y.cells _ HRX.out Tryd.underlying32 rfl (by kernel_rfl) ?_)
        | (refine wpList_buildRow rfl 22 32 41 rfl 17 (by decide) (by decide) y.cells rfl rfl Tryd.underlying22 (by kernel_rfl) (by kernel_rfl) ?_)
        | (at_builtin; refine wpList_append_E rfl (.tmp 29) (.tmp 42) rfl W1.heap.size _ mo rfl _ rfl HO3.out _ 1 1 [y] rfl rfl HSN.out _ rfl (by omega) HX3.out.size ?_; intro A2 c2 Wa ho2 hg2; have HOa := Lib.hid ho2; have HXa := Lib.hid (HX3.out.own HO3.out hg2 (Nat.le_refl _)); clear ho2 hg2))
      clear HSN HO3 HX3 HRX
      by_cases hc : k % 3 = tw % 3
      · have hcb : ((k : Int) % 3 == (tw : Int) % 3) = true := by rw [beq_iff_eq]; omega
        rw [if_pos hc] at HST
        have HSTC := Lib.hid HST.out
        have HSN := Lib.hid (svE_lit Wa [z] (by simp))
        have HO3 := Lib.hid (own_ext HOa.out ((Ext.refl Wa).alloc (.cells (rowsE [z]).flatten.toArray 32)))
        have HX3 := Lib.hid (HXa.out.alloc (.cells (rowsE [z]).flatten.toArray 32))
        have HRX := Lib.hid (HRB.out Wa HXa.out)
        go_wp2_with (first
          | (with_reducible refine wpList_load_mid rfl 32 (.tmp 58) rfl b (off + j2 * 17) rfl z.cells _ HRX.out Tryd.underlying32 rfl (by kernel_rfl) ?_)
          | (refine wpList_buildRow rfl 22 32 59 rfl 17 (by decide) (by decide) z.cells rfl rfl Tryd.underlying22 (by kernel_rfl) (by kernel_rfl) ?_)
          | (at_builtin; refine wpList_append_E rfl (.tmp 50) (.tmp 60) rfl W1.heap.size _ (mo ++ [y]) rfl (mo.length + 1) (by simp) HO3.out _ 1 1 [z] rfl rfl HSN.out _ rfl (by omega) HX3.out.size ?_; intro A2 c2 Wb ho2 hg2; have HOb := Lib.hid ho2; have HXb := Lib.hid (HX3.out.own HO3.out hg2 (Nat.le_refl _)); clear ho2 hg2))
        clear HSN HO3 HX3 HRX
        go_roundw
        case rel => exact ⟨k + 1, by go_num, by omega, by rw [HST.out]; simpa using HOb.out, HXb.out⟩
        case measure => simp [intOf]; omega
      · have hcb : ((k : Int) % 3 == (tw : Int) % 3) = false := by rw [beq_eq_false_iff_ne]; omega
        rw [if_neg hc] at HST
        go_wp2_with fail
        go_roundw
        case rel => exact ⟨k + 1, by go_num, by omega, by rw [HST.out]; simpa using HOa.out, HXa.out⟩
        case measure => simp [intOf]; omega
    · obtain rfl : k = l.length := by omega
      have HMM := Lib.hid (mixL_mem l tn tw)
      have hml := mixL_len l tn tw l.length
      have HS1 := Lib.hid (own_sv_E HO.out rfl)
      generalize hmo : mixL l tn tw l.length = mo at HO HMM hml HS1
      have HL := Lib.hid (HL.out.ext HXR.out); have HR := Lib.hid (HR.out.ext HXR.out); have HX := Lib.hid (HX.out.trans HXR.out)
      clear HO HXR hmo
      have K1 := Lib.hid (fun (W : World) (hx : Ext wr W) => Set_any A c l W (HL.out.ext hx) (by omega) (HR.out.ext hx))
      have K2 := Lib.hid (fun (W : World) (hx : Ext wr W) => Set_any A1 c1 mo W (HS1.out.ext hx) (by omega) (HR.out.ext hx))
      go_upto_region 13 with (first
        | (go_at_call 16; first
          | ((with_reducible refine (K1.out _ (Ext.refl _)).mono ?_); rintro e wa ⟨s1, h1, A5, c5, rfl, v1, xa⟩; have HXA := Lib.hid xa; have HV := Lib.hid v1; have HR1 := Lib.hid h1; clear xa v1 h1)
          | ((with_reducible refine (K2.out _ HXA.out).mono ?_); rintro e wb ⟨s2, h2, A6, c6, rfl, v2, xb⟩; obtain rfl := HR1.out.same HMM.out h2; have hsl := HR1.out.len; have HXB := Lib.hid xb; have HV1 := Lib.hid (HV.out.ext xb); have HV2 := Lib.hid v2; clear h2 xb v2))
        | (go_at_call 15; refine (same_known A5 A6 c5 c6 s1.length s1.length s1 s1 wb HV1.out HV2.out rfl rfl (by omega) rfl).mono ?_; rintro e Wc ⟨rfl, xc⟩))
      have xs := (HXA.out.trans HXB.out).trans xc
      clear xc HXA HXB HV HV1 HV2 HR1 hsl K1 K2
      have HL := Lib.hid (HL.out.ext xs); have HR := Lib.hid (HR.out.ext xs); have HX := Lib.hid (HX.out.trans xs); have HS1 := Lib.hid (HS1.out.ext xs)
      clear xs
      have K1 := Lib.hid (fun (W : World) (hx : Ext Wc W) => Forks_any A c l W (HL.out.ext hx) (by omega) (HR.out.ext hx))
      have K2 := Lib.hid (fun (W : World) (hx : Ext Wc W) => Forks_any A1 c1 mo W (HS1.out.ext hx) (by omega) (HR.out.ext hx))
      go_upto_region 14 with (first
        | (go_at_call 19; first
          | ((with_reducible refine (K1.out _ (Ext.refl _)).mono ?_); rintro e wa ⟨s1, h1, A5, c5, rfl, v1, xa⟩; have HXA := Lib.hid xa; have HV := Lib.hid v1; have HR1 := Lib.hid h1; clear xa v1 h1)
          | ((with_reducible refine (K2.out _ HXA.out).mono ?_); rintro e wb ⟨s2, h2, A6, c6, rfl, v2, xb⟩; obtain rfl := HR1.out.same HMM.out h2; have hsl := HR1.out.len; have HXB := Lib.hid xb; have HV1 := Lib.hid (HV.out.ext xb); have HV2 := Lib.hid v2; clear h2 xb v2))
        | (go_at_call 18; refine (sameNm_known A5 A6 c5 c6 s1.length s1.length s1 s1 wb HV1.out HV2.out rfl rfl (by omega) rfl).mono ?_; rintro e Wd ⟨rfl, xc⟩))
      have xs := (HXA.out.trans HXB.out).trans xc
      clear xc HXA HXB HV HV1 HV2 HR1 hsl K1 K2
      have HL := Lib.hid (HL.out.ext xs); have HR := Lib.hid (HR.out.ext xs); have HX := Lib.hid (HX.out.trans xs); have HS1 := Lib.hid (HS1.out.ext xs)
      clear xs
      have K1 := Lib.hid (fun (W : World) (hx : Ext Wd W) => Active_any A c l W (HL.out.ext hx) (by omega) (HR.out.ext hx))
      have K2 := Lib.hid (fun (W : World) (hx : Ext Wd W) => Active_any A1 c1 mo W (HS1.out.ext hx) (by omega) (HR.out.ext hx))
      go_upto_region 15 with (first
        | (go_at_call 21; first
          | ((with_reducible refine (K1.out _ (Ext.refl _)).mono ?_); rintro e wa ⟨s1, h1, A5, c5, rfl, v1, xa⟩; have HXA := Lib.hid xa; have HV := Lib.hid v1; have HR1 := Lib.hid h1; clear xa v1 h1)
          | ((with_reducible refine (K2.out _ HXA.out).mono ?_); rintro e wb ⟨s2, h2, A6, c6, rfl, v2, xb⟩; obtain rfl := HR1.out.same HMM.out h2; have hsl := HR1.out.len; have HXB := Lib.hid xb; have HV1 := Lib.hid (HV.out.ext xb); have HV2 := Lib.hid v2; clear h2 xb v2))
        | (go_at_call 15; refine (same_known A5 A6 c5 c6 s1.length s1.length s1 s1 wb HV1.out HV2.out rfl rfl (by omega) rfl).mono ?_; rintro e We ⟨rfl, xc⟩))
      have xs := (HXA.out.trans HXB.out).trans xc
      clear xc HXA HXB HV HV1 HV2 HR1 hsl K1 K2
      have HL := Lib.hid (HL.out.ext xs); have HR := Lib.hid (HR.out.ext xs); have HX := Lib.hid (HX.out.trans xs); have HS1 := Lib.hid (HS1.out.ext xs)
      clear xs
      go_wp2_with fail
      go_ret
      exact ⟨rfl, HX.out⟩
end Go.Proofs.YtcfebfblmmbeaaaDoor

/- HistoryIsOrderFree: for every input the law returns true, and each argument reads as it did. No condition. -/
namespace Go.Proofs.YtcfebfblmmbeaaaDoor
open Go Go.RowKit Go.ChangeShapes Go.WideShapes Go.ChangeAt

theorem u8b_Jb {n : Int} (h : (Lit.int .u8 n).wf = true) : 0 ≤ n ∧ n ≤ 255 := by simpa [Lit.wf, IntKind.min, IntKind.max, IntKind.signed, IntKind.bits] using h
set_option maxHeartbeats 1600000 in
set_option maxRecDepth 100000 in
theorem historyIsOrderFree_lifted (os : Os) (started : os.Started) (H : Type) (enc : TypeId × Value → H) :
    ReturnsInHanded {} Tryd.checked os 4 .any (fun w args => (Rows.historyIsOrderFreeSpec.pre enc Tryd.prog Tryd.f4 Rows.historyIsOrderFreeRow.domain false w args ∧ laidMetH Tryd.prog laidL w) ∧ sizedMet enc Tryd.prog Tryd.f4 (OpenSpec.ofChange Rows.historyIsOrderFreeSpec) false w args) (Rows.historyIsOrderFreeSpec.post enc Tryd.prog Tryd.f4 false true false false) := by
  refine returnsInHanded_of_change_and (C := Tryd.checked) (X := fun w _ => laidMetH Tryd.prog laidL w) (fun _ _ _ hh h => h.of_heap hh) own_ started (by kernel_rfl) Tryd.func4
    (ChangeSpec.witness_shaped (enc := enc) (C := Tryd.checked) (os := os) (X := fun w _ => laidMetH Tryd.prog laidL w) false (World.laidAll Tryd.prog os laidL) #[.slice none 0 0, .int .u8 0, .int .u8 0] 8 (World.laidAll_os _ _ _) (World.shaped_of_ZipB (by kernel_rfl) (by kernel_rfl)) (by kernel_rfl) (by kernel_rfl) (by kernel_rfl)
      (by rw [MakeChecks.laidMetH_plain _ _ _ (by kernel_rfl)]; exact laidMet_laidAll _ (by kernel_rfl) (by kernel_rfl))) ?_
  intro W base args ds gs before hval0 hW hcnd _ hLd _
  have hval : ∀ (j : Nat) t v, Tryd.f4.params[j]? = some t → args[j]? = some v → Value.okWide Tryd.prog W .any base t v := hval0
  have hLd := laid_of hLd
  have hW' := hW
  obtain ⟨p, q, hA0, hV, rfl, hfz, hnd⟩ := hW
  have hA : DataW.TrodAll enc Tryd.prog W 0 (fun _ => true) true Tryd.f4.params.toList args.toList ds p := hA0
  have hAll := hA
  rw [Tryd.params4] at hA hval
  obtain ⟨v0, vs0, d0, ds0, p0, q0, ha, rfl, rfl, h0, r0⟩ := trodAll_cons hA
  obtain ⟨v1, vs1, d1, ds1, p1, q1, rfl, rfl, rfl, h1, r1⟩ := trodAll_cons r0
  obtain ⟨v2, vs2, d2, ds2, p2, q2, rfl, rfl, rfl, h2, r2⟩ := trodAll_cons r1
  obtain ⟨rfl, rfl, rfl⟩ := trodAll_nil r2
  obtain ⟨rfl, rfl⟩ := trodVars_none hV
  have hargs : args = #[v0, v1, v2] := by apply Array.ext'; exact ha
  subst hargs
  obtain ⟨A, c, l, rfl, hs, _⟩ := read_Eds (hval 0 _ _ rfl rfl) h0
  obtain ⟨turn, rfl, rfl, rfl, hu1⟩ := open_int Tryd.underlying5 (hval 1 _ _ rfl rfl) h1
  obtain ⟨twice, rfl, rfl, rfl, hu2⟩ := open_int Tryd.underlying5 (hval 2 _ _ rfl rfl) h2
  refine (HistoryIsOrderFree_any A c l turn twice W hs (u8b_Jb hu1) (u8b_Jb hu2) hLd).mono fun e W' ⟨he, hx⟩ => ?_
  subst he
  have hlt : ∀ x, x ∈ (p0 ++ ([] ++ ([] ++ []))) → x.block < W.heap.size := fun x hx2 => hW'.lt x (by simpa using hx2)
  exact ⟨_, rfl, _, _, _, [], _, [], hW', trodAll_mk1 (shut_bool Tryd.underlying4 true), args_below laidOut_ _ _ _ _ W' (by rw [Tryd.params4]; intro t ht; simp at ht; rcases ht with rfl | rfl <;> exact ⟨by kernel_rfl, of_decide_eq_true (by kernel_rfl)⟩) hAll hx.below hlt, rfl, hx.below.frame _, fun h => by cases h⟩

theorem historyIsOrderFree_row : Rows.HistoryIsOrderFreeSaid :=
  OpenClaim.holds_of_wide 4 Tryd.f4 rfl rfl rfl rfl rfl rfl rfl ⟨rfl, rfl, rfl, rfl, rfl⟩ rfl rfl rfl rfl rfl (by kernel_rfl) Tryd.func4 (by kernel_rfl)
    (of_decide_eq_true (by kernel_rfl)) (by unfold Func.isWrapper; rw [if_neg (of_decide_eq_false (by kernel_rfl))]; exact ⟨rfl, rfl⟩)
    (fun os started H enc _ => historyIsOrderFree_lifted os started H enc)

theorem historyIsOrderFree_holds : Rows.HistoryIsOrderFreeCardSaid :=
  Claim7.holds_tied_plain_at .later [] [.data] true Rows.historyIsOrderFreeCard.stood.harness false
    historyIsOrderFree_row (fun _ h => by cases h) (by kernel_rfl) (fun _ h => by cases h) historyIsOrderFree_row_tie rfl ⟨rfl, rfl⟩ (by kernel_rfl) rfl
    (fun f fn hf hfn => by
      obtain rfl : f = 4 := Option.some.inj ((show Tryd.prog.funcNamed "voxel/voxellaw27.HistoryIsOrderFree" = some 4 by kernel_rfl).symm.trans hf) |>.symm
      obtain rfl : fn = Tryd.f4 := (Option.some.inj (Tryd.func4.symm.trans hfn)).symm
      exact ⟨by kernel_rfl, fun j t ht => by
        rw [Tryd.params4] at ht
        have hm : t ∈ [22, 5, 5] := by simpa using Array.mem_of_getElem? ht
        have hall : ([22, 5, 5].all fun u => !Tryd.prog.wantsStandIn u) = true := by kernel_rfl
        exact (show Tryd.prog.wantsStandIn t = false by simpa using List.all_eq_true.1 hall t hm)⟩)
    (by kernel_rfl)
end Go.Proofs.YtcfebfblmmbeaaaDoor
