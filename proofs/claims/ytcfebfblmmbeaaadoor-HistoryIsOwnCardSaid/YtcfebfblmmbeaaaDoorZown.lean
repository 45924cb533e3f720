/- YtcfebfblmmbeaaaDoorJc · YtcfebfblmmbeaaaDoorJcP -/
import Derived.Test.YtcfebfblmmbeaaaDoorTie
import Derived.Test.YtcfebfblmmbeaaaDoorCards
import Derived.LaidLaws
import Derived.SevenTiedAt
import Derived.Test.YtcfebfblmmbeaaaDoorZa9
/- HistoryIsOwn. -/
namespace Go.Proofs.YtcfebfblmmbeaaaDoor
open Go Go.RowKit

theorem cnt_step {p : Nm → Bool} {l : List Nm} {k : Nat} {x : Nm} (hx : l[k]? = some x) : cntB p (l.take (k + 1)) = cntB p (l.take k) + (if p x then 1 else 0) := by
  rw [take_snocR hx, cntB_snoc]
set_option maxRecDepth 100000 in
set_option maxHeartbeats 16000000 in
theorem HistoryIsOwn_any (A : Option Addr) (c : Nat) (l : List Ed) (x : Ed) (w : World) (hs : Sv w w.heap.size 17 A c (rowsE l)) (hR : RowsIn w) :
    Calls Tryd.prog 5 #[.slice A l.length c, .agg x.cells.toArray] w fun e w' => e = .returned (.bool true) ∧ Ext w w' := by
  have hm := mixed
  have hx0 : Ext w (w.alloc (.cells x.cells.toArray 32)) := (Ext.refl w).alloc _
  have HB := Lib.hid (Arr.new w 32 x.cells)
  have HL := Lib.hid (hs.ext hx0); have HR := Lib.hid (hR.ext hx0); have HX := Lib.hid hx0
  have hll := hs.len
  rw [rowsE_length] at hll
  clear hs hR hx0
  go_enter Tryd.func5, Tryd.ntmps5
  go_upto_region 1 with fail
  obtain ⟨W0, hW⟩ : ∃ W, W = w.alloc (.cells x.cells.toArray 32) := ⟨_, rfl⟩
  rw [← hW] at HB HL HR HX
  rw [← hW]
  clear hW
  have HSN := Lib.hid (sanity_any W0 HR.out)
  go_upto_region 2 with (go_at_call 8; refine HSN.out.mono ?_; rintro e W1 ⟨rfl, xs⟩)
  have HL := Lib.hid (HL.out.ext xs); have HR := Lib.hid (HR.out.ext xs); have HX := Lib.hid (HX.out.trans xs); have HB := Lib.hid (HB.out.ext xs)
  clear xs HSN
  by_cases hlong : (30 : Int) < (l.length : Int)
  · go_wp2_with fail
    go_ret
    exact ⟨rfl, HX.out⟩
  have hl30 : l.length ≤ 30 := by omega
  have HLN := Lib.hid hl30
  go_upto_region 4 with fail
  refine wp_region_fin (w := W1) 5 (fun d i v w' => match i with
      | 0 => ∃ b, v = .slice (some ⟨b, 0, none⟩) 0 0 ∧ (d = false → w'.ownsRow W1.heap.size 32 17 v (0) (rowsE []).flatten)
      | 1 => v = .slice A l.length c
      | 2 => ∃ A' c', v = .slice A' l.length c' ∧ (d = false → w'.ownsRow W1.heap.size 32 17 v (l.length) (rowsE l).flatten)
      | 3 => v = .agg x.cells.toArray
      | 4 => ∃ b, v = .slice (some ⟨b, 0, none⟩) 1 1 ∧ (d = false → Sv w' w'.heap.size 17 (some ⟨b, 0, none⟩) 1 (rowsE [x]))
      | 5 => d = true ∧ ∃ A' c', v = .slice A' (l.length + 1) c' ∧ w'.ownsRow W1.heap.size 32 17 v (l.length + 1) (rowsE (l ++ [x])).flatten
      | 6 => d = true ∧ ∃ A' c', v = .slice A' (l.length + 1) c' ∧ w'.ownsRow W1.heap.size 32 17 v (l.length + 1) (rowsE (l ++ [x])).flatten
      | _ => True) 2 23 (fun _ _ => True) hm (by kernel_rfl) (by kernel_rfl) rfl (by decide) rfl ⟨_, rfl, by kernel_rfl⟩ ?_ ?_ ?_ ?_ ?_
  · intro d i v w1 w2 hx h
    match i, h with
    | 0, h => exact (by obtain ⟨b, k1, k2⟩ := h; exact ⟨b, k1, fun e => own_ext (k2 e) hx⟩)
    | 1, h => exact h
    | 2, h => exact (by obtain ⟨A', c', k1, k2⟩ := h; exact ⟨A', c', k1, fun e => own_ext (k2 e) hx⟩)
    | 3, h => exact h
    | 4, h => exact (by obtain ⟨b, k1, k2⟩ := h; exact ⟨b, k1, fun e => (k2 e).ext hx⟩)
    | 5, h => exact (by obtain ⟨k0, A', c', k1, k2⟩ := h; exact ⟨k0, A', c', k1, own_ext k2 hx⟩)
    | 6, h => exact (by obtain ⟨k0, A', c', k1, k2⟩ := h; exact ⟨k0, A', c', k1, own_ext k2 hx⟩)
    | i + 7, h => exact trivial
  · intro i v w1 w2 h
    match i, h with
    | 0, h => exact (by obtain ⟨b, k1, _⟩ := h; exact ⟨b, k1, fun e => by cases e⟩)
    | 1, h => exact h
    | 2, h => exact (by obtain ⟨A', c', k1, _⟩ := h; exact ⟨A', c', k1, fun e => by cases e⟩)
    | 3, h => exact h
    | 4, h => exact (by obtain ⟨b, k1, _⟩ := h; exact ⟨b, k1, fun e => by cases e⟩)
    | 5, h => exact absurd h.1 (by simp)
    | 6, h => exact absurd h.1 (by simp)
    | i + 7, h => exact trivial
  · intro v w1 w2 hx h; exact trivial
  · intro i o ho d b w1 hJd hN hx hmiss hdep K hK
    match i, ho with
    | 0, ho =>
      obtain rfl := Option.some.inj ho
      refine want_none rfl ?_
      exact op_run (v := .slice (some ⟨w1.heap.size, 0, none⟩) 0 0) (w2 := w1.alloc (.cells #[] 32)) (by unfold execOp; simp [go_sem]) (hK _ _ (hx.alloc _) (fun _ => (Ext.refl _).alloc _) (fun e => absurd e (by decide)) ⟨_, rfl, fun _ => own_lower hx.size (own_zero w1 _ 17)⟩)
    | 1, ho =>
      obtain rfl := Option.some.inj ho
      refine want_none rfl ?_
      have e0 : b.tmps[0]? = some (.slice A l.length c) := hmiss 0 rfl
      exact op_move rfl (eval_of e0) (hK _ w1 hx (fun _ => Ext.refl _) (fun e => absurd e (by decide)) rfl)
    | 2, ho =>
      obtain rfl := Option.some.inj ho
      refine want_none rfl ?_
      obtain rfl : d = false := hN (by kernel_rfl)
      obtain ⟨v1, ⟨b, k1, k2⟩, e1⟩ := hdep 0 rfl
      subst k1
      have e1 := e1 21 rfl
      obtain ⟨v22, g22, e22⟩ := hdep 1 rfl
      have g22 : v22 = .slice A l.length c := g22
      subst g22
      have e22 := e22 22 rfl
      obtain ⟨i0, hi, hz0, hz1, hz2⟩ := info_parts infoEd
      refine op_append_zero (.tmp 21) (.tmp 22) 22 rfl W1.heap.size 32 i0 _ 17 136 Tryd.underlying22 hi hz0 hz1 hz2 rfl (by decide) b (eval_of e1) (k2 rfl) _ _ l.length c (rowsE l) (eval_of e22) (HL.out.ext hx) (rowsE_length _) (by have := HLN.out; unfold maxLen; omega) (by have := HLN.out; omega) hx.size (fun v' w' ho he => ?_)
      have ho' := ho
      obtain ⟨A', c', e, _⟩ := own_form ho'
      subst e
      exact hK _ w' (hx.trans he) (fun _ => he) (fun e => absurd e (by decide)) ⟨A', c', rfl, fun _ => ho⟩
    | 3, ho =>
      obtain rfl := Option.some.inj ho
      refine want_none rfl ?_
      have e3 : b.tmps[3]? = some (.pointer (some ⟨w.heap.size, 0, none⟩)) := hmiss 3 rfl
      exact op_loadrow rfl (eval_of e3) (HB.out.ext hx) _ Tryd.underlying32 rfl (by kernel_rfl) (hK _ w1 hx (fun _ => Ext.refl _) (fun e => absurd e (by decide)) rfl)
    | 4, ho =>
      obtain rfl := Option.some.inj ho
      refine want_none rfl ?_
      obtain ⟨v24, g24, e24⟩ := hdep 3 rfl
      have g24 : v24 = .agg x.cells.toArray := g24
      subst g24
      have e24 := e24 24 rfl
      exact op_buildRow 22 32 24 rfl 17 (by decide) (by decide) x.cells rfl (eval_of e24) Tryd.underlying22 (by kernel_rfl) (by kernel_rfl) (hK _ _ (hx.alloc _) (fun _ => (Ext.refl _).alloc _) (fun e => absurd e (by decide)) ⟨_, rfl, fun _ => svE_lit w1 [x] (by simp)⟩)
    | 5, ho =>
      obtain rfl := Option.some.inj ho
      refine want_none rfl ?_
      obtain rfl : d = false := hJd rfl
      obtain ⟨v1, ⟨A1, c1, k1, k2⟩, e1⟩ := hdep 2 rfl
      subst k1
      have e1 := e1 23 rfl
      have k2 := k2 rfl
      obtain ⟨v2, ⟨b, k3, k4⟩, e2⟩ := hdep 4 rfl
      subst k3
      have e2 := e2 25 rfl
      have k4 := k4 rfl
      obtain ⟨i0, hi, hz0, hz1, hz2⟩ := info_parts infoEd
      refine op_append_sv (.tmp 23) (.tmp 25) 22 rfl W1.heap.size 32 i0 _ 17 136 Tryd.underlying22 hi hz0 hz1 hz2 rfl (by decide) _ l.length _ (eval_of e1) k2 _ _ 1 1 (rowsE [x]) (eval_of e2) k4 rfl (by have := HLN.out; unfold maxLen; omega) (by have := HLN.out; omega) hx.size (fun v' w' ho hg => ?_)
      have ho : w'.ownsRow W1.heap.size 32 17 v' (l.length + 1) (rowsE (l ++ [x])).flatten := by rw [rowsE_append, List.flatten_append]; exact ho
      obtain ⟨A', c', e, _⟩ := own_form ho
      subst e
      exact hK _ w' (hx.own k2 hg (Nat.le_refl _)) (fun e => absurd rfl e) (fun _ _ _ => trivial) ⟨rfl, A', c', rfl, ho⟩
    | 6, ho =>
      obtain rfl := Option.some.inj ho
      refine want_none rfl ?_
      obtain ⟨v1, g1, e1⟩ := hdep 5 rfl
      have e1 := e1 26 rfl
      exact op_assign rfl (eval_of e1) (hK _ w1 hx (fun _ => Ext.refl _) (fun e => absurd e (by decide)) g1)
    | i + 7, ho => cases ho
  · intro V W2 hx hg _
    obtain ⟨_, AM, cM, q0, so⟩ := hg 6 (by decide)
    rw [q0] at so
    have HO := Lib.hid so
    simp only [List.length_cons, List.length_nil, fillAllN, dstOf, Act.put, List.getElem?_toArray, List.getElem?_cons_zero, List.getElem?_cons_succ, Option.bind_some, List.setIfInBounds_toArray, List.set_cons_zero, List.set_cons_succ, q0]
    clear hg q0 so
    have HM := Lib.hid (own_sv_E HO.out (by simp))
    have HL := Lib.hid (HL.out.ext hx); have HR := Lib.hid (HR.out.ext hx); have HB := Lib.hid (HB.out.ext hx); have HX := Lib.hid (HX.out.trans hx)
    clear hx HO
    have hml : (l ++ [x]).length = l.length + 1 := by simp
    have HMN := Lib.hid hml
    generalize hmo : l ++ [x] = mo at HM hml HMN
    rw [← hml]
    clear hml
    have HMO := Lib.hid hmo
    clear hmo
    have K1 := Lib.hid (fun (W : World) (hx : Ext W2 W) => Active_any A c l W (HL.out.ext hx) (by omega) (HR.out.ext hx))
    have K2 := Lib.hid (fun (W : World) (hx : Ext W2 W) => Active_any AM cM mo W (HM.out.ext hx) (by have := HMN.out; omega) (HR.out.ext hx))
    go_upto_region 6 with (go_at_call 21; ((with_reducible refine (K1.out _ (Ext.refl _)).mono ?_); rintro e W3 ⟨a, hac, A5, c5, rfl, v1, xa⟩))
    have HAC := Lib.hid hac; have HVA := Lib.hid v1; have HXA := Lib.hid xa; have hal := hac.len
    clear hac v1 xa
    go_upto_region 7 with (go_at_call 21; ((with_reducible refine (K2.out _ HXA.out).mono ?_); rintro e W4 ⟨be, hbc, A6, c6, rfl, v2, xb⟩))
    have HBC := Lib.hid (HMO.out ▸ hbc); have HVB := Lib.hid v2; have HVA := Lib.hid (HVA.out.ext xb); have HXB := Lib.hid (HXA.out.trans xb); have hbl := hbc.len
    clear hbc v2 xb HXA K1 K2
    have HL := Lib.hid (HL.out.ext HXB.out); have HM := Lib.hid (HM.out.ext HXB.out); have HR := Lib.hid (HR.out.ext HXB.out); have HB := Lib.hid (HB.out.ext HXB.out); have HX := Lib.hid (HX.out.trans HXB.out)
    clear HXB
    have hbl2 : be.length ≤ 31 := by have := HMN.out; omega
    clear hbl
    go_upto_region 8 with fail
    go_loopw [9] (fun iv wr => ∃ k : Nat, iv = .int .i64 k ∧ k ≤ l.length ∧ Ext W4 wr) (fun iv _ => l.length - (intOf iv).toNat)
    case atStart => exact ⟨0, rfl, Nat.zero_le _, Ext.refl _⟩
    case round =>
      obtain ⟨k, rfl, hk, hx⟩ := hrel
      have HXR := Lib.hid hx
      clear hx
      by_cases hlt : k < l.length
      · obtain ⟨y, hyk⟩ : ∃ y, l[k]? = some y := ⟨_, List.getElem?_eq_getElem hlt⟩
        obtain ⟨bq, oq, rfl, hbl, hra⟩ := ed_row (HL.out.ext HXR.out) hyk
        have HRX := Lib.hid (fun w2 (h : Ext wr w2) => rangeAt_ext hra hbl h)
        have hk0 : 0 ≤ (k : Int) := by omega
        have hk1 : ¬ ((l.length : Int) ≤ (k : Int)) := by omega
        clear hra hyk
        have HBX := Lib.hid (HB.out.ext HXR.out)
        have dy : ∀ w2, Ext wr w2 → w2.cell? ⟨bq, oq + k * 17 + 2, none⟩ = some (.int .i64 y.st.site) := fun w2 h => HRX.out w2 h 2 _ rfl
        have dx : ∀ w2, Ext wr w2 → w2.cell? ⟨w.heap.size, 2, none⟩ = some (.int .i64 x.st.site) := fun w2 h => (HBX.out.ext h).cell 2
        have HVAR := Lib.hid (HVA.out.ext HXR.out); have HVBR := Lib.hid (HVB.out.ext HXR.out)
        by_cases hst : y.st.site = x.st.site
        · have hnb := hst
          have HST := Lib.hid hst
          clear hst
          go_upto_region 10 with fail
          refine wp_region_rel (fun i v w' => match i with
              | 0 => v = .slice (some ⟨bq, oq, none⟩) l.length c
              | 1 => v = .int .i64 (k : Int)
              | 2 => v = .pointer (some ⟨bq, oq + k * 17, none⟩)
              | 3 => v = .pointer (some ⟨bq, oq + k * 17, none⟩)
              | 4 => v = .pointer (some ⟨bq, oq + k * 17 + 2, none⟩)
              | 5 => v = .int .i64 y.st.site
              | 6 => v = .pointer (some ⟨w.heap.size, 0, none⟩)
              | 7 => v = .pointer (some ⟨w.heap.size, 2, none⟩)
              | 8 => v = .int .i64 x.st.site
              | 9 => v = .bool false
              | 10 => v = .bool false
              | 11 => v = undef
              | 12 => v = undef
              | 13 => v = undef
              | 14 => v = undef
              | 15 => v = undef
              | 16 => v = undef
              | 17 => v = undef
              | 18 => v = undef
              | 19 => v = undef
              | 20 => v = undef
              | 21 => v = undef
              | 22 => v = undef
              | 23 => v = undef
              | 24 => v = .bool false
              | _ => True) hm (by kernel_rfl) (by kernel_rfl) rfl ?_ ?_ ?_
          · intro i v w1 w2 hx h
            match i, h with
            | 0, h => exact h
            | 1, h => exact h
            | 2, h => exact h
            | 3, h => exact h
            | 4, h => exact h
            | 5, h => exact h
            | 6, h => exact h
            | 7, h => exact h
            | 8, h => exact h
            | 9, h => exact h
            | 10, h => exact h
            | 11, h => exact h
            | 12, h => exact h
            | 13, h => exact h
            | 14, h => exact h
            | 15, h => exact h
            | 16, h => exact h
            | 17, h => exact h
            | 18, h => exact h
            | 19, h => exact h
            | 20, h => exact h
            | 21, h => exact h
            | 22, h => exact h
            | 23, h => exact h
            | 24, h => exact h
            | i + 25, h => exact h
          · intro i o ho b w1 hx hmiss hdep K hK
            match i, ho with
            | 0, ho =>
              obtain rfl := Option.some.inj ho
              have e0 : b.tmps[0]? = some (.slice (some ⟨bq, oq, none⟩) l.length c) := hmiss 0 rfl
              refine want_none rfl ?_
              exact op_move rfl (eval_of e0) (hK _ w1 (Ext.refl _) rfl)
            | 1, ho =>
              obtain rfl := Option.some.inj ho
              have e9 : b.tmps[9]? = some (.int .i64 (k : Int)) := hmiss 9 rfl
              refine want_none rfl ?_
              exact op_move rfl (eval_of e9) (hK _ w1 (Ext.refl _) rfl)
            | 2, ho =>
              obtain rfl := Option.some.inj ho
              obtain ⟨v37, g37, e37⟩ := hdep 0 rfl
              have g37 : v37 = .slice (some ⟨bq, oq, none⟩) l.length c := g37
              subst g37
              have e37 := e37 37 rfl
              obtain ⟨v38, g38, e38⟩ := hdep 1 rfl
              have g38 : v38 = .int .i64 (k : Int) := g38
              subst g38
              have e38 := e38 38 rfl
              refine want_none rfl ?_
              exact op_run (by unfold execOp; simp [e37, e38, Act.eval, go_sem, hlt, hk0]) (hK _ w1 (Ext.refl _) rfl)
            | 3, ho =>
              obtain rfl := Option.some.inj ho
              obtain ⟨v39, g39, e39⟩ := hdep 2 rfl
              have g39 : v39 = .pointer (some ⟨bq, oq + k * 17, none⟩) := g39
              subst g39
              have e39 := e39 39 rfl
              refine want_none rfl ?_
              exact op_run (by unfold execOp; simp [e39, Act.eval, go_sem]) (hK _ w1 (Ext.refl _) rfl)
            | 4, ho =>
              obtain rfl := Option.some.inj ho
              obtain ⟨v40, g40, e40⟩ := hdep 3 rfl
              have g40 : v40 = .pointer (some ⟨bq, oq + k * 17, none⟩) := g40
              subst g40
              have e40 := e40 40 rfl
              refine want_none rfl ?_
              exact op_run (by unfold execOp; simp [e40, Act.eval, go_sem]) (hK _ w1 (Ext.refl _) rfl)
            | 5, ho =>
              obtain rfl := Option.some.inj ho
              obtain ⟨v41, g41, e41⟩ := hdep 4 rfl
              have g41 : v41 = .pointer (some ⟨bq, oq + k * 17 + 2, none⟩) := g41
              subst g41
              have e41 := e41 41 rfl
              refine want_none rfl ?_
              exact op_run (by unfold execOp; simp [e41, Act.eval, go_sem, hnb, dy w1 hx]) (hK _ w1 (Ext.refl _) rfl)
            | 6, ho =>
              obtain rfl := Option.some.inj ho
              have e3 : b.tmps[3]? = some (.pointer (some ⟨w.heap.size, 0, none⟩)) := hmiss 3 rfl
              refine want_none rfl ?_
              exact op_run (by unfold execOp; simp [e3, Act.eval, go_sem]) (hK _ w1 (Ext.refl _) rfl)
            | 7, ho =>
              obtain rfl := Option.some.inj ho
              obtain ⟨v43, g43, e43⟩ := hdep 6 rfl
              have g43 : v43 = .pointer (some ⟨w.heap.size, 0, none⟩) := g43
              subst g43
              have e43 := e43 43 rfl
              refine want_none rfl ?_
              exact op_run (by unfold execOp; simp [e43, Act.eval, go_sem]) (hK _ w1 (Ext.refl _) rfl)
            | 8, ho =>
              obtain rfl := Option.some.inj ho
              obtain ⟨v44, g44, e44⟩ := hdep 7 rfl
              have g44 : v44 = .pointer (some ⟨w.heap.size, 2, none⟩) := g44
              subst g44
              have e44 := e44 44 rfl
              refine want_none rfl ?_
              exact op_run (by unfold execOp; simp [e44, Act.eval, go_sem, dx w1 hx]) (hK _ w1 (Ext.refl _) rfl)
            | 9, ho =>
              obtain rfl := Option.some.inj ho
              obtain ⟨v42, g42, e42⟩ := hdep 5 rfl
              have g42 : v42 = .int .i64 y.st.site := g42
              subst g42
              have e42 := e42 42 rfl
              obtain ⟨v45, g45, e45⟩ := hdep 8 rfl
              have g45 : v45 = .int .i64 x.st.site := g45
              subst g45
              have e45 := e45 45 rfl
              refine want_none rfl ?_
              exact op_run (by unfold execOp; simp [e42, e45, Act.eval, go_sem, hnb]) (hK _ w1 (Ext.refl _) rfl)
            | 10, ho =>
              obtain rfl := Option.some.inj ho
              obtain ⟨v46, g46, e46⟩ := hdep 9 rfl
              have g46 : v46 = .bool false := g46
              subst g46
              have e46 := e46 46 rfl
              refine want_none rfl ?_
              exact op_move rfl (eval_of e46) (hK _ w1 (Ext.refl _) rfl)
            | 11, ho =>
              obtain rfl := Option.some.inj ho
              obtain ⟨vg, gg, eg⟩ := hdep 10 rfl
              have gg : vg = .bool false := gg
              subst gg
              have eg := eg 47 rfl
              exact want_no rfl rfl (.inl eg) (hK _ w1 (Ext.refl _) rfl)
            | 12, ho =>
              obtain rfl := Option.some.inj ho
              obtain ⟨vg, gg, eg⟩ := hdep 10 rfl
              have gg : vg = .bool false := gg
              subst gg
              have eg := eg 47 rfl
              exact want_no rfl rfl (.inl eg) (hK _ w1 (Ext.refl _) rfl)
            | 13, ho =>
              obtain rfl := Option.some.inj ho
              obtain ⟨vg, gg, eg⟩ := hdep 10 rfl
              have gg : vg = .bool false := gg
              subst gg
              have eg := eg 47 rfl
              exact want_no rfl rfl (.inl eg) (hK _ w1 (Ext.refl _) rfl)
            | 14, ho =>
              obtain rfl := Option.some.inj ho
              obtain ⟨vg, gg, eg⟩ := hdep 10 rfl
              have gg : vg = .bool false := gg
              subst gg
              have eg := eg 47 rfl
              exact want_no rfl rfl (.inl eg) (hK _ w1 (Ext.refl _) rfl)
            | 15, ho =>
              obtain rfl := Option.some.inj ho
              obtain ⟨vg, gg, eg⟩ := hdep 10 rfl
              have gg : vg = .bool false := gg
              subst gg
              have eg := eg 47 rfl
              exact want_no rfl rfl (.inl eg) (hK _ w1 (Ext.refl _) rfl)
            | 16, ho =>
              obtain rfl := Option.some.inj ho
              obtain ⟨vg, gg, eg⟩ := hdep 10 rfl
              have gg : vg = .bool false := gg
              subst gg
              have eg := eg 47 rfl
              exact want_no rfl rfl (.inl eg) (hK _ w1 (Ext.refl _) rfl)
            | 17, ho =>
              obtain rfl := Option.some.inj ho
              obtain ⟨vg, gg, eg⟩ := hdep 10 rfl
              have gg : vg = .bool false := gg
              subst gg
              have eg := eg 47 rfl
              exact want_no rfl rfl (.inl eg) (hK _ w1 (Ext.refl _) rfl)
            | 18, ho =>
              obtain rfl := Option.some.inj ho
              obtain ⟨vg, gg, eg⟩ := hdep 10 rfl
              have gg : vg = .bool false := gg
              subst gg
              have eg := eg 47 rfl
              exact want_no rfl rfl (.inl eg) (hK _ w1 (Ext.refl _) rfl)
            | 19, ho =>
              obtain rfl := Option.some.inj ho
              obtain ⟨vg, gg, eg⟩ := hdep 10 rfl
              have gg : vg = .bool false := gg
              subst gg
              have eg := eg 47 rfl
              exact want_no rfl rfl (.inl eg) (hK _ w1 (Ext.refl _) rfl)
            | 20, ho =>
              obtain rfl := Option.some.inj ho
              obtain ⟨vg, gg, eg⟩ := hdep 10 rfl
              have gg : vg = .bool false := gg
              subst gg
              have eg := eg 47 rfl
              exact want_no rfl rfl (.inl eg) (hK _ w1 (Ext.refl _) rfl)
            | 21, ho =>
              obtain rfl := Option.some.inj ho
              obtain ⟨vg, gg, eg⟩ := hdep 10 rfl
              have gg : vg = .bool false := gg
              subst gg
              have eg := eg 47 rfl
              exact want_no rfl rfl (.inl eg) (hK _ w1 (Ext.refl _) rfl)
            | 22, ho =>
              obtain rfl := Option.some.inj ho
              obtain ⟨vg, gg, eg⟩ := hdep 10 rfl
              have gg : vg = .bool false := gg
              subst gg
              have eg := eg 47 rfl
              exact want_no rfl rfl (.inl eg) (hK _ w1 (Ext.refl _) rfl)
            | 23, ho =>
              obtain rfl := Option.some.inj ho
              obtain ⟨vg, gg, eg⟩ := hdep 10 rfl
              have gg : vg = .bool false := gg
              subst gg
              have eg := eg 47 rfl
              exact want_no rfl rfl (.inl eg) (hK _ w1 (Ext.refl _) rfl)
            | 24, ho =>
              obtain rfl := Option.some.inj ho
              obtain ⟨v47, g47, e47⟩ := hdep 10 rfl
              have g47 : v47 = .bool false := g47
              subst g47
              have e47 := e47 47 rfl
              obtain ⟨v60, g60, e60⟩ := hdep 23 rfl
              have g60 : v60 = undef := g60
              subst g60
              have e60 := e60 60 rfl
              refine want_none rfl ?_
              exact op_run (by unfold execOp; simp [e47, e60, Act.eval, go_sem]) (hK _ w1 (Ext.refl _) rfl)
            | i + 25, ho => cases ho
          · intro V w9 hx hg
            have g0 : V 0 = .slice (some ⟨bq, oq, none⟩) l.length c := hg 0 (by decide)
            have g1 : V 1 = .int .i64 (k : Int) := hg 1 (by decide)
            have g2 : V 2 = .pointer (some ⟨bq, oq + k * 17, none⟩) := hg 2 (by decide)
            have g3 : V 3 = .pointer (some ⟨bq, oq + k * 17, none⟩) := hg 3 (by decide)
            have g4 : V 4 = .pointer (some ⟨bq, oq + k * 17 + 2, none⟩) := hg 4 (by decide)
            have g5 : V 5 = .int .i64 y.st.site := hg 5 (by decide)
            have g6 : V 6 = .pointer (some ⟨w.heap.size, 0, none⟩) := hg 6 (by decide)
            have g7 : V 7 = .pointer (some ⟨w.heap.size, 2, none⟩) := hg 7 (by decide)
            have g8 : V 8 = .int .i64 x.st.site := hg 8 (by decide)
            have g9 : V 9 = .bool false := hg 9 (by decide)
            have g10 : V 10 = .bool false := hg 10 (by decide)
            have g11 : V 11 = undef := hg 11 (by decide)
            have g12 : V 12 = undef := hg 12 (by decide)
            have g13 : V 13 = undef := hg 13 (by decide)
            have g14 : V 14 = undef := hg 14 (by decide)
            have g15 : V 15 = undef := hg 15 (by decide)
            have g16 : V 16 = undef := hg 16 (by decide)
            have g17 : V 17 = undef := hg 17 (by decide)
            have g18 : V 18 = undef := hg 18 (by decide)
            have g19 : V 19 = undef := hg 19 (by decide)
            have g20 : V 20 = undef := hg 20 (by decide)
            have g21 : V 21 = undef := hg 21 (by decide)
            have g22 : V 22 = undef := hg 22 (by decide)
            have g23 : V 23 = undef := hg 23 (by decide)
            have g24 : V 24 = .bool false := hg 24 (by decide)
            simp only [List.length_cons, List.length_nil, fillAllN, dstOf, Act.put, List.getElem?_toArray, List.getElem?_cons_zero, List.getElem?_cons_succ, Option.bind_some, g0, g1, g2, g3, g4, g5, g6, g7, g8, g9, g10, g11, g12, g13, g14, g15, g16, g17, g18, g19, g20, g21, g22, g23, g24, List.setIfInBounds_toArray, List.set_cons_zero, List.set_cons_succ]
            clear g0 g1 g2 g3 g4 g5 g6 g7 g8 g9 g10 g11 g12 g13 g14 g15 g16 g17 g18 g19 g20 g21 g22 g23 g24 hg
            have HX9 := Lib.hid (HXR.out.trans hx)
            clear hx
            go_wp2_with fail
            go_roundw
            case rel => exact ⟨k + 1, by go_num, by omega, HX9.out⟩
            case measure => simp [intOf]; omega
        · have hnb := hst
          obtain ⟨ba, hba⟩ : ∃ ba, decide (y ∈ a) = ba := ⟨_, rfl⟩
          have HBA := Lib.hid hba
          have HBB := Lib.hid (show decide (y ∈ be) = ba by rw [← hba]; simp only [HAC.out.own HBC.out hst])
          clear hba
          have HST := Lib.hid hst
          clear hst
          go_upto_region 10 with fail
          refine wp_region_rel (fun i v w' => match i with
              | 0 => v = .slice (some ⟨bq, oq, none⟩) l.length c
              | 1 => v = .int .i64 (k : Int)
              | 2 => v = .pointer (some ⟨bq, oq + k * 17, none⟩)
              | 3 => v = .pointer (some ⟨bq, oq + k * 17, none⟩)
              | 4 => v = .pointer (some ⟨bq, oq + k * 17 + 2, none⟩)
              | 5 => v = .int .i64 y.st.site
              | 6 => v = .pointer (some ⟨w.heap.size, 0, none⟩)
              | 7 => v = .pointer (some ⟨w.heap.size, 2, none⟩)
              | 8 => v = .int .i64 x.st.site
              | 9 => v = .bool true
              | 10 => v = .bool true
              | 11 => v = .slice A5 a.length c5
              | 12 => v = .slice (some ⟨bq, oq, none⟩) l.length c
              | 13 => v = .int .i64 (k : Int)
              | 14 => v = .pointer (some ⟨bq, oq + k * 17, none⟩)
              | 15 => v = .agg y.cells.toArray
              | 16 => v = .bool ba
              | 17 => v = .slice A6 be.length c6
              | 18 => v = .slice (some ⟨bq, oq, none⟩) l.length c
              | 19 => v = .int .i64 (k : Int)
              | 20 => v = .pointer (some ⟨bq, oq + k * 17, none⟩)
              | 21 => v = .agg y.cells.toArray
              | 22 => v = .bool ba
              | 23 => v = .bool false
              | 24 => v = .bool false
              | _ => True) hm (by kernel_rfl) (by kernel_rfl) rfl ?_ ?_ ?_
          · intro i v w1 w2 hx h
            match i, h with
            | 0, h => exact h
            | 1, h => exact h
            | 2, h => exact h
            | 3, h => exact h
            | 4, h => exact h
            | 5, h => exact h
            | 6, h => exact h
            | 7, h => exact h
            | 8, h => exact h
            | 9, h => exact h
            | 10, h => exact h
            | 11, h => exact h
            | 12, h => exact h
            | 13, h => exact h
            | 14, h => exact h
            | 15, h => exact h
            | 16, h => exact h
            | 17, h => exact h
            | 18, h => exact h
            | 19, h => exact h
            | 20, h => exact h
            | 21, h => exact h
            | 22, h => exact h
            | 23, h => exact h
            | 24, h => exact h
            | i + 25, h => exact h
          · intro i o ho b w1 hx hmiss hdep K hK
            match i, ho with
            | 0, ho =>
              obtain rfl := Option.some.inj ho
              have e0 : b.tmps[0]? = some (.slice (some ⟨bq, oq, none⟩) l.length c) := hmiss 0 rfl
              refine want_none rfl ?_
              exact op_move rfl (eval_of e0) (hK _ w1 (Ext.refl _) rfl)
            | 1, ho =>
              obtain rfl := Option.some.inj ho
              have e9 : b.tmps[9]? = some (.int .i64 (k : Int)) := hmiss 9 rfl
              refine want_none rfl ?_
              exact op_move rfl (eval_of e9) (hK _ w1 (Ext.refl _) rfl)
            | 2, ho =>
              obtain rfl := Option.some.inj ho
              obtain ⟨v37, g37, e37⟩ := hdep 0 rfl
              have g37 : v37 = .slice (some ⟨bq, oq, none⟩) l.length c := g37
              subst g37
              have e37 := e37 37 rfl
              obtain ⟨v38, g38, e38⟩ := hdep 1 rfl
              have g38 : v38 = .int .i64 (k : Int) := g38
              subst g38
              have e38 := e38 38 rfl
              refine want_none rfl ?_
              exact op_run (by unfold execOp; simp [e37, e38, Act.eval, go_sem, hlt, hk0]) (hK _ w1 (Ext.refl _) rfl)
            | 3, ho =>
              obtain rfl := Option.some.inj ho
              obtain ⟨v39, g39, e39⟩ := hdep 2 rfl
              have g39 : v39 = .pointer (some ⟨bq, oq + k * 17, none⟩) := g39
              subst g39
              have e39 := e39 39 rfl
              refine want_none rfl ?_
              exact op_run (by unfold execOp; simp [e39, Act.eval, go_sem]) (hK _ w1 (Ext.refl _) rfl)
            | 4, ho =>
              obtain rfl := Option.some.inj ho
              obtain ⟨v40, g40, e40⟩ := hdep 3 rfl
              have g40 : v40 = .pointer (some ⟨bq, oq + k * 17, none⟩) := g40
              subst g40
              have e40 := e40 40 rfl
              refine want_none rfl ?_
              exact op_run (by unfold execOp; simp [e40, Act.eval, go_sem]) (hK _ w1 (Ext.refl _) rfl)
            | 5, ho =>
              obtain rfl := Option.some.inj ho
              obtain ⟨v41, g41, e41⟩ := hdep 4 rfl
              have g41 : v41 = .pointer (some ⟨bq, oq + k * 17 + 2, none⟩) := g41
              subst g41
              have e41 := e41 41 rfl
              refine want_none rfl ?_
              exact op_run (by unfold execOp; simp [e41, Act.eval, go_sem, dy w1 hx]) (hK _ w1 (Ext.refl _) rfl)
            | 6, ho =>
              obtain rfl := Option.some.inj ho
              have e3 : b.tmps[3]? = some (.pointer (some ⟨w.heap.size, 0, none⟩)) := hmiss 3 rfl
              refine want_none rfl ?_
              exact op_run (by unfold execOp; simp [e3, Act.eval, go_sem]) (hK _ w1 (Ext.refl _) rfl)
            | 7, ho =>
              obtain rfl := Option.some.inj ho
              obtain ⟨v43, g43, e43⟩ := hdep 6 rfl
              have g43 : v43 = .pointer (some ⟨w.heap.size, 0, none⟩) := g43
              subst g43
              have e43 := e43 43 rfl
              refine want_none rfl ?_
              exact op_run (by unfold execOp; simp [e43, Act.eval, go_sem]) (hK _ w1 (Ext.refl _) rfl)
            | 8, ho =>
              obtain rfl := Option.some.inj ho
              obtain ⟨v44, g44, e44⟩ := hdep 7 rfl
              have g44 : v44 = .pointer (some ⟨w.heap.size, 2, none⟩) := g44
              subst g44
              have e44 := e44 44 rfl
              refine want_none rfl ?_
              exact op_run (by unfold execOp; simp [e44, Act.eval, go_sem, dx w1 hx]) (hK _ w1 (Ext.refl _) rfl)
            | 9, ho =>
              obtain rfl := Option.some.inj ho
              obtain ⟨v42, g42, e42⟩ := hdep 5 rfl
              have g42 : v42 = .int .i64 y.st.site := g42
              subst g42
              have e42 := e42 42 rfl
              obtain ⟨v45, g45, e45⟩ := hdep 8 rfl
              have g45 : v45 = .int .i64 x.st.site := g45
              subst g45
              have e45 := e45 45 rfl
              refine want_none rfl ?_
              exact op_run (by unfold execOp; simp [e42, e45, Act.eval, go_sem, hnb]) (hK _ w1 (Ext.refl _) rfl)
            | 10, ho =>
              obtain rfl := Option.some.inj ho
              obtain ⟨v46, g46, e46⟩ := hdep 9 rfl
              have g46 : v46 = .bool true := g46
              subst g46
              have e46 := e46 46 rfl
              refine want_none rfl ?_
              exact op_move rfl (eval_of e46) (hK _ w1 (Ext.refl _) rfl)
            | 11, ho =>
              obtain rfl := Option.some.inj ho
              have e7 : b.tmps[7]? = some (.slice A5 a.length c5) := hmiss 7 rfl
              obtain ⟨vg, gg, eg⟩ := hdep 10 rfl
              have gg : vg = .bool true := gg
              subst gg
              have eg := eg 47 rfl
              refine want_yes rfl rfl eg ?_
              exact op_move rfl (eval_of e7) (hK _ w1 (Ext.refl _) rfl)
            | 12, ho =>
              obtain rfl := Option.some.inj ho
              have e0 : b.tmps[0]? = some (.slice (some ⟨bq, oq, none⟩) l.length c) := hmiss 0 rfl
              obtain ⟨vg, gg, eg⟩ := hdep 10 rfl
              have gg : vg = .bool true := gg
              subst gg
              have eg := eg 47 rfl
              refine want_yes rfl rfl eg ?_
              exact op_move rfl (eval_of e0) (hK _ w1 (Ext.refl _) rfl)
            | 13, ho =>
              obtain rfl := Option.some.inj ho
              have e9 : b.tmps[9]? = some (.int .i64 (k : Int)) := hmiss 9 rfl
              obtain ⟨vg, gg, eg⟩ := hdep 10 rfl
              have gg : vg = .bool true := gg
              subst gg
              have eg := eg 47 rfl
              refine want_yes rfl rfl eg ?_
              exact op_move rfl (eval_of e9) (hK _ w1 (Ext.refl _) rfl)
            | 14, ho =>
              obtain rfl := Option.some.inj ho
              obtain ⟨v49, g49, e49⟩ := hdep 12 rfl
              have g49 : v49 = .slice (some ⟨bq, oq, none⟩) l.length c := g49
              subst g49
              have e49 := e49 49 rfl
              obtain ⟨v50, g50, e50⟩ := hdep 13 rfl
              have g50 : v50 = .int .i64 (k : Int) := g50
              subst g50
              have e50 := e50 50 rfl
              obtain ⟨vg, gg, eg⟩ := hdep 10 rfl
              have gg : vg = .bool true := gg
              subst gg
              have eg := eg 47 rfl
              refine want_yes rfl rfl eg ?_
              exact op_run (by unfold execOp; simp [e49, e50, Act.eval, go_sem, hlt, hk0]) (hK _ w1 (Ext.refl _) rfl)
            | 15, ho =>
              obtain rfl := Option.some.inj ho
              obtain ⟨v51, g51, e51⟩ := hdep 14 rfl
              have g51 : v51 = .pointer (some ⟨bq, oq + k * 17, none⟩) := g51
              subst g51
              have e51 := e51 51 rfl
              obtain ⟨vg, gg, eg⟩ := hdep 10 rfl
              have gg : vg = .bool true := gg
              subst gg
              have eg := eg 47 rfl
              refine want_yes rfl rfl eg ?_
              exact wp_load_mid 32 (.tmp 51) rfl (bq) (oq + k * 17) (eval_of e51) (y.cells) _ (HRX.out _ hx) Tryd.underlying32 rfl (by kernel_rfl) (hK _ w1 (Ext.refl _) rfl)
            | 16, ho =>
              obtain rfl := Option.some.inj ho
              obtain ⟨v48, g48, e48⟩ := hdep 11 rfl
              have g48 : v48 = .slice A5 a.length c5 := g48
              subst g48
              have e48 := e48 48 rfl
              obtain ⟨v52, g52, e52⟩ := hdep 15 rfl
              have g52 : v52 = .agg y.cells.toArray := g52
              subst g52
              have e52 := e52 52 rfl
              obtain ⟨vg, gg, eg⟩ := hdep 10 rfl
              have gg : vg = .bool true := gg
              subst gg
              have eg := eg 47 rfl
              refine want_yes rfl rfl eg ?_
              have hc : Calls Tryd.prog 26 #[.slice A5 a.length c5, .agg y.cells.toArray] w1 fun e w' => ∃ v, e = .returned v ∧ Ext w1 w' ∧ (v = .bool ba) := (has_any A5 c5 a y w1 (HVAR.out.ext hx) (by omega)).mono fun e w2 ⟨h1, h2⟩ => ⟨_, h1, h2, congrArg _ HBA.out⟩
              exact op_call (G := fun v w' => v = .bool ba) rfl (by simp [eval_of e48, eval_of e52]) (fun _ _ => by kernel_rfl) hc (fun v w' h1 h2 => hK v w' h1 h2)
            | 17, ho =>
              obtain rfl := Option.some.inj ho
              have e8 : b.tmps[8]? = some (.slice A6 be.length c6) := hmiss 8 rfl
              obtain ⟨vg, gg, eg⟩ := hdep 10 rfl
              have gg : vg = .bool true := gg
              subst gg
              have eg := eg 47 rfl
              refine want_yes rfl rfl eg ?_
              exact op_move rfl (eval_of e8) (hK _ w1 (Ext.refl _) rfl)
            | 18, ho =>
              obtain rfl := Option.some.inj ho
              have e0 : b.tmps[0]? = some (.slice (some ⟨bq, oq, none⟩) l.length c) := hmiss 0 rfl
              obtain ⟨vg, gg, eg⟩ := hdep 10 rfl
              have gg : vg = .bool true := gg
              subst gg
              have eg := eg 47 rfl
              refine want_yes rfl rfl eg ?_
              exact op_move rfl (eval_of e0) (hK _ w1 (Ext.refl _) rfl)
            | 19, ho =>
              obtain rfl := Option.some.inj ho
              have e9 : b.tmps[9]? = some (.int .i64 (k : Int)) := hmiss 9 rfl
              obtain ⟨vg, gg, eg⟩ := hdep 10 rfl
              have gg : vg = .bool true := gg
              subst gg
              have eg := eg 47 rfl
              refine want_yes rfl rfl eg ?_
              exact op_move rfl (eval_of e9) (hK _ w1 (Ext.refl _) rfl)
            | 20, ho =>
              obtain rfl := Option.some.inj ho
              obtain ⟨v55, g55, e55⟩ := hdep 18 rfl
              have g55 : v55 = .slice (some ⟨bq, oq, none⟩) l.length c := g55
              subst g55
              have e55 := e55 55 rfl
              obtain ⟨v56, g56, e56⟩ := hdep 19 rfl
              have g56 : v56 = .int .i64 (k : Int) := g56
              subst g56
              have e56 := e56 56 rfl
              obtain ⟨vg, gg, eg⟩ := hdep 10 rfl
              have gg : vg = .bool true := gg
              subst gg
              have eg := eg 47 rfl
              refine want_yes rfl rfl eg ?_
              exact op_run (by unfold execOp; simp [e55, e56, Act.eval, go_sem, hlt, hk0]) (hK _ w1 (Ext.refl _) rfl)
            | 21, ho =>
              obtain rfl := Option.some.inj ho
              obtain ⟨v57, g57, e57⟩ := hdep 20 rfl
              have g57 : v57 = .pointer (some ⟨bq, oq + k * 17, none⟩) := g57
              subst g57
              have e57 := e57 57 rfl
              obtain ⟨vg, gg, eg⟩ := hdep 10 rfl
              have gg : vg = .bool true := gg
              subst gg
              have eg := eg 47 rfl
              refine want_yes rfl rfl eg ?_
              exact wp_load_mid 32 (.tmp 57) rfl (bq) (oq + k * 17) (eval_of e57) (y.cells) _ (HRX.out _ hx) Tryd.underlying32 rfl (by kernel_rfl) (hK _ w1 (Ext.refl _) rfl)
            | 22, ho =>
              obtain rfl := Option.some.inj ho
              obtain ⟨v54, g54, e54⟩ := hdep 17 rfl
              have g54 : v54 = .slice A6 be.length c6 := g54
              subst g54
              have e54 := e54 54 rfl
              obtain ⟨v58, g58, e58⟩ := hdep 21 rfl
              have g58 : v58 = .agg y.cells.toArray := g58
              subst g58
              have e58 := e58 58 rfl
              obtain ⟨vg, gg, eg⟩ := hdep 10 rfl
              have gg : vg = .bool true := gg
              subst gg
              have eg := eg 47 rfl
              refine want_yes rfl rfl eg ?_
              have hc : Calls Tryd.prog 26 #[.slice A6 be.length c6, .agg y.cells.toArray] w1 fun e w' => ∃ v, e = .returned v ∧ Ext w1 w' ∧ (v = .bool ba) := (has_any A6 c6 be y w1 (HVBR.out.ext hx) (by omega)).mono fun e w2 ⟨h1, h2⟩ => ⟨_, h1, h2, congrArg _ HBB.out⟩
              exact op_call (G := fun v w' => v = .bool ba) rfl (by simp [eval_of e54, eval_of e58]) (fun _ _ => by kernel_rfl) hc (fun v w' h1 h2 => hK v w' h1 h2)
            | 23, ho =>
              obtain rfl := Option.some.inj ho
              obtain ⟨v53, g53, e53⟩ := hdep 16 rfl
              obtain rfl := g53
              have e53 := e53 53 rfl
              obtain ⟨v59, g59, e59⟩ := hdep 22 rfl
              obtain rfl := g59
              have e59 := e59 59 rfl
              obtain ⟨vg, gg, eg⟩ := hdep 10 rfl
              have gg : vg = .bool true := gg
              subst gg
              have eg := eg 47 rfl
              refine want_yes rfl rfl eg ?_
              exact op_run (by unfold execOp; simp [e53, e59, Act.eval, go_sem]) (hK _ w1 (Ext.refl _) rfl)
            | 24, ho =>
              obtain rfl := Option.some.inj ho
              obtain ⟨v47, g47, e47⟩ := hdep 10 rfl
              have g47 : v47 = .bool true := g47
              subst g47
              have e47 := e47 47 rfl
              obtain ⟨v60, g60, e60⟩ := hdep 23 rfl
              have g60 : v60 = .bool false := g60
              subst g60
              have e60 := e60 60 rfl
              refine want_none rfl ?_
              exact op_run (by unfold execOp; simp [e47, e60, Act.eval, go_sem]) (hK _ w1 (Ext.refl _) rfl)
            | i + 25, ho => cases ho
          · intro V w9 hx hg
            have g0 : V 0 = .slice (some ⟨bq, oq, none⟩) l.length c := hg 0 (by decide)
            have g1 : V 1 = .int .i64 (k : Int) := hg 1 (by decide)
            have g2 : V 2 = .pointer (some ⟨bq, oq + k * 17, none⟩) := hg 2 (by decide)
            have g3 : V 3 = .pointer (some ⟨bq, oq + k * 17, none⟩) := hg 3 (by decide)
            have g4 : V 4 = .pointer (some ⟨bq, oq + k * 17 + 2, none⟩) := hg 4 (by decide)
            have g5 : V 5 = .int .i64 y.st.site := hg 5 (by decide)
            have g6 : V 6 = .pointer (some ⟨w.heap.size, 0, none⟩) := hg 6 (by decide)
            have g7 : V 7 = .pointer (some ⟨w.heap.size, 2, none⟩) := hg 7 (by decide)
            have g8 : V 8 = .int .i64 x.st.site := hg 8 (by decide)
            have g9 : V 9 = .bool true := hg 9 (by decide)
            have g10 : V 10 = .bool true := hg 10 (by decide)
            have g11 : V 11 = .slice A5 a.length c5 := hg 11 (by decide)
            have g12 : V 12 = .slice (some ⟨bq, oq, none⟩) l.length c := hg 12 (by decide)
            have g13 : V 13 = .int .i64 (k : Int) := hg 13 (by decide)
            have g14 : V 14 = .pointer (some ⟨bq, oq + k * 17, none⟩) := hg 14 (by decide)
            have g15 : V 15 = .agg y.cells.toArray := hg 15 (by decide)
            have g17 : V 17 = .slice A6 be.length c6 := hg 17 (by decide)
            have g18 : V 18 = .slice (some ⟨bq, oq, none⟩) l.length c := hg 18 (by decide)
            have g19 : V 19 = .int .i64 (k : Int) := hg 19 (by decide)
            have g20 : V 20 = .pointer (some ⟨bq, oq + k * 17, none⟩) := hg 20 (by decide)
            have g21 : V 21 = .agg y.cells.toArray := hg 21 (by decide)
            have g23 : V 23 = .bool false := hg 23 (by decide)
            have g24 : V 24 = .bool false := hg 24 (by decide)
            have g16 := hg 16 (by decide)
            have g22 := hg 22 (by decide)
            simp only [List.length_cons, List.length_nil, fillAllN, dstOf, Act.put, List.getElem?_toArray, List.getElem?_cons_zero, List.getElem?_cons_succ, Option.bind_some, g0, g1, g2, g3, g4, g5, g6, g7, g8, g9, g10, g11, g12, g13, g14, g15, g17, g18, g19, g20, g21, g23, g24, List.setIfInBounds_toArray, List.set_cons_zero, List.set_cons_succ]
            clear g0 g1 g2 g3 g4 g5 g6 g7 g8 g9 g10 g11 g12 g13 g14 g15 g17 g18 g19 g20 g21 g23 g24 hg
            have HX9 := Lib.hid (HXR.out.trans hx)
            clear hx
            go_wp2_with fail
            go_roundw
            case rel => exact ⟨k + 1, by go_num, by omega, HX9.out⟩
            case measure => simp [intOf]; omega
      · obtain rfl : k = l.length := by omega
        have HL := Lib.hid (HL.out.ext HXR.out); have HM := Lib.hid (HM.out.ext HXR.out); have HR := Lib.hid (HR.out.ext HXR.out); have HB := Lib.hid (HB.out.ext HXR.out); have HX := Lib.hid (HX.out.trans HXR.out)
        clear HVA HVB HAC HBC
        have K1 := Lib.hid (fun (W : World) (hx : Ext wr W) => Forks_any A c l W (HL.out.ext hx) (by omega) (HR.out.ext hx))
        have K2 := Lib.hid (fun (W : World) (hx : Ext wr W) => Forks_any AM cM mo W (HM.out.ext hx) (by have := HMN.out; omega) (HR.out.ext hx))
        go_upto_region 13 with (go_at_call 19; ((with_reducible refine (K1.out _ (Ext.refl _)).mono ?_); rintro e W5 ⟨f, hf, A7, c7, rfl, v1, xa⟩))
        have HF := Lib.hid hf; have HVF := Lib.hid v1; have HXA := Lib.hid xa; have hfl := hf.len
        clear hf v1 xa
        go_upto_region 14 with (go_at_call 19; ((with_reducible refine (K2.out _ HXA.out).mono ?_); rintro e W6 ⟨g, hg, A8, c8, rfl, v2, xb⟩))
        have HG := Lib.hid (HMO.out ▸ hg); have HVG := Lib.hid v2; have HVF := Lib.hid (HVF.out.ext xb); have HXB := Lib.hid (HXA.out.trans xb); have hgl := hg.len
        have hgl2 : g.length ≤ 31 := by have := HMN.out; omega
        clear hg v2 xb HXA K1 K2 HXR hgl
        have HB := Lib.hid (HB.out.ext HXB.out); have HX := Lib.hid (HX.out.trans HXB.out)
        clear HXB HL HM HR
        obtain ⟨p, hp⟩ : ∃ p : Nm → Bool, p = fun n => decide (n.site ≠ x.st.site) := ⟨_, rfl⟩
        have HCN := Lib.hid (show cntB p f = cntB p g by unfold cntB; rw [hp]; exact congrArg List.length (HF.out.own HG.out))
        have HP := Lib.hid (fun n => congrFun hp n)
        clear hp HF HG
        go_upto_region 17 with fail
        go_loopw [12, 14] (fun nv iv wz => ∃ k : Nat, iv = .int .i64 k ∧ k ≤ f.length ∧ nv = .int .i64 (cntB p (f.take k) : Nat) ∧ Ext W6 wz) (fun _ iv _ => f.length - (intOf iv).toNat)
        case atStart => exact ⟨0, rfl, Nat.zero_le _, by simp [cntB], Ext.refl _⟩
        case round =>
          obtain ⟨k, rfl, hk, rfl, hx⟩ := hrel
          have HXZ := Lib.hid hx
          by_cases hlt : k < f.length
          · obtain ⟨q, hq⟩ : ∃ q, f[k]? = some q := ⟨_, List.getElem?_eq_getElem hlt⟩
            obtain ⟨bq, oq, rfl, hbl, r0, r1⟩ := nm_row (HVF.out.ext hx) hq
            have dx0 := (HB.out.ext hx).cell 2
            have dxl := (HB.out.ext hx).lt
            simp only [Ed.cells, List.getElem?_cons_zero, List.getElem?_cons_succ] at dx0
            have HST := Lib.hid (cnt_step (p := p) hq)
            have hcl := Nat.le_trans (cntB_le p (f.take k)) (List.length_take_le k f)
            have hG := near_old
            clear hq hx
            generalize cntB p (f.take k) = cn at HST hcl
            have hw1 : IntKind.i64.wrap ((cn : Int) + 1) = (cn : Int) + 1 := by rw [IntKind.wrap_i64]; omega
            by_cases hst : q.site = x.st.site
            · have hpq : p q = false := by rw [HP.out]; simp [hst]
              rw [hpq] at HST
              have hnb : (q.site == x.st.site) = true := by simpa using hst
              clear hst hpq
              go_upto_region 19 with fail
              refine wp_region_near (by assumption) (by kernel_rfl) ?_
              repeat (go_big_quiet_step (fail))
              refine wpQuiet_nil ?_
              intro w1 hw1
              have hy := Ext.of_near hw1
              clear hw1
              go_wp2_with fail
              go_roundw
              case rel => exact ⟨k + 1, by go_num, by omega, by rw [HST.out]; simp, HXZ.out.trans hy⟩
              case measure => simp [intOf]; omega
            · have hpq : p q = true := by rw [HP.out]; simp [hst]
              rw [hpq] at HST
              have hnb : (q.site == x.st.site) = false := by simpa using hst
              clear hst hpq
              go_upto_region 19 with fail
              refine wp_region_near (by assumption) (by kernel_rfl) ?_
              repeat (go_big_quiet_step (fail))
              refine wpQuiet_nil ?_
              intro w1 hw1
              have hy := Ext.of_near hw1
              clear hw1
              go_wp2_with fail
              go_roundw
              case rel => exact ⟨k + 1, by go_num, by omega, by rw [HST.out]; simp, HXZ.out.trans hy⟩
              case measure => simp [intOf]; omega
          · obtain rfl : k = f.length := by omega
            rw [List.take_length]
            go_upto_region 22 with fail
            go_loopw [13, 15] (fun nv iv wz => ∃ k : Nat, iv = .int .i64 k ∧ k ≤ g.length ∧ nv = .int .i64 (cntB p (g.take k) : Nat) ∧ Ext W6 wz) (fun _ iv _ => g.length - (intOf iv).toNat)
            case atStart => exact ⟨0, rfl, Nat.zero_le _, by simp [cntB], HXZ.out⟩
            case round =>
              obtain ⟨k, rfl, hk, rfl, hx⟩ := hrel
              have HXZ := Lib.hid hx
              by_cases hlt : k < g.length
              · obtain ⟨q, hq⟩ : ∃ q, g[k]? = some q := ⟨_, List.getElem?_eq_getElem hlt⟩
                obtain ⟨bq, oq, rfl, hbl, r0, r1⟩ := nm_row (HVG.out.ext hx) hq
                have dx0 := (HB.out.ext hx).cell 2
                have dxl := (HB.out.ext hx).lt
                simp only [Ed.cells, List.getElem?_cons_zero, List.getElem?_cons_succ] at dx0
                have HST := Lib.hid (cnt_step (p := p) hq)
                have hcl := Nat.le_trans (cntB_le p (g.take k)) (List.length_take_le k g)
                have hG := near_old
                clear hq hx
                generalize cntB p (g.take k) = cn at HST hcl
                have hw1 : IntKind.i64.wrap ((cn : Int) + 1) = (cn : Int) + 1 := by rw [IntKind.wrap_i64]; omega
                by_cases hst : q.site = x.st.site
                · have hpq : p q = false := by rw [HP.out]; simp [hst]
                  rw [hpq] at HST
                  have hnb : (q.site == x.st.site) = true := by simpa using hst
                  clear hst hpq
                  go_upto_region 24 with fail
                  refine wp_region_near (by assumption) (by kernel_rfl) ?_
                  repeat (go_big_quiet_step (fail))
                  refine wpQuiet_nil ?_
                  intro w1 hw1
                  have hy := Ext.of_near hw1
                  clear hw1
                  go_wp2_with fail
                  go_roundw
                  case rel => exact ⟨k + 1, by go_num, by omega, by rw [HST.out]; simp, HXZ.out.trans hy⟩
                  case measure => simp [intOf]; omega
                · have hpq : p q = true := by rw [HP.out]; simp [hst]
                  rw [hpq] at HST
                  have hnb : (q.site == x.st.site) = false := by simpa using hst
                  clear hst hpq
                  go_upto_region 24 with fail
                  refine wp_region_near (by assumption) (by kernel_rfl) ?_
                  repeat (go_big_quiet_step (fail))
                  refine wpQuiet_nil ?_
                  intro w1 hw1
                  have hy := Ext.of_near hw1
                  clear hw1
                  go_wp2_with fail
                  go_roundw
                  case rel => exact ⟨k + 1, by go_num, by omega, by rw [HST.out]; simp, HXZ.out.trans hy⟩
                  case measure => simp [intOf]; omega
              · obtain rfl : k = g.length := by omega
                rw [List.take_length]
                have hcf := Nat.le_trans (cntB_le p f) hfl
                have hce : (((cntB p f : Nat) : Int) == ((cntB p g : Nat) : Int)) = true := by rw [HCN.out]; simp
                go_wp2_with fail
                go_ret
                exact ⟨rfl, HX.out.trans HXZ.out⟩
end Go.Proofs.YtcfebfblmmbeaaaDoor

/- HistoryIsOwn: for every input the law returns true, and each argument reads as it did. No condition. -/
namespace Go.Proofs.YtcfebfblmmbeaaaDoor
open Go Go.RowKit Go.ChangeShapes Go.WideShapes Go.ChangeAt

set_option maxHeartbeats 1600000 in
set_option maxRecDepth 100000 in
theorem historyIsOwn_lifted (os : Os) (started : os.Started) (H : Type) (enc : TypeId × Value → H) :
    ReturnsInHanded {} Tryd.checked os 5 .any (fun w args => (Rows.historyIsOwnSpec.pre enc Tryd.prog Tryd.f5 Rows.historyIsOwnRow.domain false w args ∧ laidMetH Tryd.prog laidL w) ∧ sizedMet enc Tryd.prog Tryd.f5 (OpenSpec.ofChange Rows.historyIsOwnSpec) false w args) (Rows.historyIsOwnSpec.post enc Tryd.prog Tryd.f5 false true false false) := by
  refine returnsInHanded_of_change_and (C := Tryd.checked) (X := fun w _ => laidMetH Tryd.prog laidL w) (fun _ _ _ hh h => h.of_heap hh) own_ started (by kernel_rfl) Tryd.func5
    (ChangeSpec.witness_shaped (enc := enc) (C := Tryd.checked) (os := os) (X := fun w _ => laidMetH Tryd.prog laidL w) false (World.laidAll Tryd.prog os laidL) #[.slice none 0 0, .agg #[.int .i64 0, .int .i64 0, .int .i64 0, .int .i64 0, .int .i64 0, .int .i64 0, .int .i64 0, .int .i64 0, .int .i64 0, .int .i64 0, .int .i64 0, .int .i64 0, .int .i64 0, .int .i64 0, .int .i64 0, .int .i64 0, .int .i64 0]] 8 (World.laidAll_os _ _ _) (World.shaped_of_ZipB (by kernel_rfl) (by kernel_rfl)) (by kernel_rfl) (by kernel_rfl) (by kernel_rfl)
      (by rw [MakeChecks.laidMetH_plain _ _ _ (by kernel_rfl)]; exact laidMet_laidAll _ (by kernel_rfl) (by kernel_rfl))) ?_
  intro W base args ds gs before hval0 hW hcnd _ hLd _
  have hval : ∀ (j : Nat) t v, Tryd.f5.params[j]? = some t → args[j]? = some v → Value.okWide Tryd.prog W .any base t v := hval0
  have hLd := laid_of hLd
  have hW' := hW
  obtain ⟨p, q, hA0, hV, rfl, hfz, hnd⟩ := hW
  have hA : DataW.TrodAll enc Tryd.prog W 0 (fun _ => true) true Tryd.f5.params.toList args.toList ds p := hA0
  have hAll := hA
  rw [Tryd.params5] at hA hval
  obtain ⟨v0, vs0, d0, ds0, p0, q0, ha, rfl, rfl, h0, r0⟩ := trodAll_cons hA
  obtain ⟨v1, vs1, d1, ds1, p1, q1, rfl, rfl, rfl, h1, r1⟩ := trodAll_cons r0
  obtain ⟨rfl, rfl, rfl⟩ := trodAll_nil r1
  obtain ⟨rfl, rfl⟩ := trodVars_none hV
  have hargs : args = #[v0, v1] := by apply Array.ext'; exact ha
  subst hargs
  obtain ⟨A, c, l, rfl, hs, _⟩ := read_Eds (hval 0 _ _ rfl rfl) h0
  obtain ⟨x, rfl, _⟩ := read_Ed (hval 1 _ _ rfl rfl) h1
  refine (HistoryIsOwn_any A c l x W hs hLd).mono fun e W' ⟨he, hx⟩ => ?_
  subst he
  have hlt : ∀ x, x ∈ (p0 ++ (p1 ++ [])) → x.block < W.heap.size := fun x hx2 => hW'.lt x (by simpa using hx2)
  exact ⟨_, rfl, _, _, _, [], _, [], hW', trodAll_mk1 (shut_bool Tryd.underlying4 true), args_below laidOut_ _ _ _ _ W' (by rw [Tryd.params5]; intro t ht; simp at ht; rcases ht with rfl | rfl <;> exact ⟨by kernel_rfl, of_decide_eq_true (by kernel_rfl)⟩) hAll hx.below hlt, rfl, hx.below.frame _, fun h => by cases h⟩

theorem historyIsOwn_row : Rows.HistoryIsOwnSaid :=
  OpenClaim.holds_of_wide 5 Tryd.f5 rfl rfl rfl rfl rfl rfl rfl ⟨rfl, rfl, rfl, rfl, rfl⟩ rfl rfl rfl rfl rfl (by kernel_rfl) Tryd.func5 (by kernel_rfl)
    (of_decide_eq_true (by kernel_rfl)) (by unfold Func.isWrapper; rw [if_neg (of_decide_eq_false (by kernel_rfl))]; exact ⟨rfl, rfl⟩)
    (fun os started H enc _ => historyIsOwn_lifted os started H enc)

theorem historyIsOwn_holds : Rows.HistoryIsOwnCardSaid :=
  Claim7.holds_tied_plain_at .later [] [.data] true Rows.historyIsOwnCard.stood.harness false
    historyIsOwn_row (fun _ h => by cases h) (by kernel_rfl) (fun _ h => by cases h) historyIsOwn_row_tie rfl ⟨rfl, rfl⟩ (by kernel_rfl) rfl
    (fun f fn hf hfn => by
      obtain rfl : f = 5 := Option.some.inj ((show Tryd.prog.funcNamed "voxel/voxellaw27.HistoryIsOwn" = some 5 by kernel_rfl).symm.trans hf) |>.symm
      obtain rfl : fn = Tryd.f5 := (Option.some.inj (Tryd.func5.symm.trans hfn)).symm
      exact ⟨by kernel_rfl, fun j t ht => by
        rw [Tryd.params5] at ht
        have hm : t ∈ [22, 32] := by simpa using Array.mem_of_getElem? ht
        have hall : ([22, 32].all fun u => !Tryd.prog.wantsStandIn u) = true := by kernel_rfl
        exact (show Tryd.prog.wantsStandIn t = false by simpa using List.all_eq_true.1 hall t hm)⟩)
    (by kernel_rfl)
end Go.Proofs.YtcfebfblmmbeaaaDoor
