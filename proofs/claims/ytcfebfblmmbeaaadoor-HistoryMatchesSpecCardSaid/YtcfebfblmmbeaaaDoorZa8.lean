/- YtcfebfblmmbeaaaDoorRt · YtcfebfblmmbeaaaDoorRu · YtcfebfblmmbeaaaDoorRv · YtcfebfblmmbeaaaDoorBw · YtcfebfblmmbeaaaDoorLh · YtcfebfblmmbeaaaDoorSk · YtcfebfblmmbeaaaDoorBe -/
import Derived.Test.YtcfebfblmmbeaaaDoorZa7
/- The reference's Same, SameNames. -/
namespace Go.Proofs.YtcfebfblmmbeaaaDoor
open Go Go.RowKit

theorem nm_rng {w : World} {B c j : Nat} {A : Option Addr} {l : List Nm} {p : Nm} (h : Sv w B 2 A c (rowsN l)) (hp : l[j]? = some p) : ∃ b off, A = some ⟨b, off, none⟩ ∧ b < B ∧ w.rangeAt b (off + j * 2) p.cells :=
  h.row (by unfold rowsN; rw [List.getElem?_map, hp]; rfl)
theorem same_no {α : Type} [DecidableEq α] {la lb : List α} {j : Nat} {x y : α} (hx : la[j]? = some x) (hy : lb[j]? = some y) (h : x ≠ y) : decide (la = lb) = false := by
  rw [decide_eq_false_iff_not]
  rintro rfl
  rw [hx] at hy
  injection hy with hy
  exact h hy
theorem same_yes {α : Type} [DecidableEq α] {la lb : List α} (hl : la.length = lb.length) (h : ∀ (i : Nat) (x y : α), i < la.length → la[i]? = some x → lb[i]? = some y → x = y) : decide (la = lb) = true := by
  rw [decide_eq_true_iff]
  apply List.ext_getElem hl
  intro i h1 h2
  exact h i _ _ h1 (List.getElem?_eq_getElem h1) (List.getElem?_eq_getElem h2)
set_option maxRecDepth 100000 in
set_option maxHeartbeats 4000000 in
theorem refSame_any (A A2 : Option Addr) (c c2 : Nat) (la lb : List Ed) (w : World) (hs : Sv w w.heap.size 17 A c (rowsE la)) (hs2 : Sv w w.heap.size 17 A2 c2 (rowsE lb)) (hla : la.length ≤ 1000000) :
    Calls Tryd.prog 15 #[.slice A la.length c, .slice A2 lb.length c2] w fun e w' => e = .returned (.bool (decide (la = lb))) ∧ Ext w w' := by
  have hm := mixed
  have HS := Lib.hid hs; clear hs
  have HS2 := Lib.hid hs2; clear hs2
  by_cases hl : la.length = lb.length
  · have HL := Lib.hid hl
    have hb : ((la.length : Int) != (lb.length : Int)) = false := by simp [hl]
    clear hl
    go_enter Tryd.func15, Tryd.ntmps15
    go_wp2
    go_loopw [5] (fun i wr => ∃ j : Nat, j ≤ la.length ∧ i = .int .i64 j ∧ (∀ (i : Nat) (x y : Ed), i < j → la[i]? = some x → lb[i]? = some y → x = y) ∧ Ext w wr) (fun i _ => la.length - (intOf i).toNat)
    case atStart => exact ⟨0, Nat.zero_le _, rfl, fun i x y hi => by omega, Ext.refl _⟩
    case round =>
      obtain ⟨j, hj, rfl, hno, hx⟩ := hrel
      have HNO := Lib.hid hno; clear hno
      have HX := Lib.hid hx
      by_cases hlt : j < la.length
      · obtain ⟨x, hxj⟩ : ∃ x, la[j]? = some x := ⟨_, List.getElem?_eq_getElem hlt⟩
        have hlt2 : j < lb.length := by have := HL.out; omega
        obtain ⟨y, hyj⟩ : ∃ y, lb[j]? = some y := ⟨_, List.getElem?_eq_getElem hlt2⟩
        obtain ⟨b1, o1, rfl, hbl, hra⟩ := ed_row (HS.out.ext hx) hxj
        obtain ⟨b2, o2, rfl, hbl2, hrb⟩ := ed_row (HS2.out.ext hx) hyj
        have HRX := Lib.hid (fun w2 (h : Ext wr w2) => rangeAt_ext hra hbl h)
        have HRY := Lib.hid (fun w2 (h : Ext wr w2) => rangeAt_ext hrb hbl2 h)
        have hn := neqEd_run x y
        have HXJ := Lib.hid hxj
        have HYJ := Lib.hid hyj
        have hj0 : 0 ≤ (j : Int) := by omega
        have hj1 : ¬ ((la.length : Int) ≤ (j : Int)) := by omega
        have hj2 : ¬ ((lb.length : Int) ≤ (j : Int)) := by omega
        generalize hbe : decide (x ≠ y) = be at hn
        have HBE := Lib.hid hbe
        clear hxj hyj hbe hx hra hrb hbl hbl2
        cases be
        · go_upto_region 6 with fail
          refine wp_region_rel (fun i v w' => match i with
              | 0 => v = .slice (some ⟨b1, o1, none⟩) la.length c
              | 1 => v = .int .i64 (j : Int)
              | 2 => v = .pointer (some ⟨b1, o1 + j * 17, none⟩)
              | 3 => v = .agg x.cells.toArray
              | 4 => v = .slice (some ⟨b2, o2, none⟩) lb.length c2
              | 5 => v = .int .i64 (j : Int)
              | 6 => v = .pointer (some ⟨b2, o2 + j * 17, none⟩)
              | 7 => v = .agg y.cells.toArray
              | 8 => v = .bool false
              | _ => True) hm (by kernel_rfl) (by kernel_rfl) rfl ?_ ?_ ?_
          · intro i v w1 w2 hx h
            match i, h with
            | 0, h => exact h
            | 1, h => exact h
            | 2, h => exact h
            | 3, h => exact h
            | 4, h => exact h
            | 5, h => exact h
            | 6, h => exact h
            | 7, h => exact h
            | 8, h => exact h
            | i + 9, h => exact h
          · intro i o ho b w1 hx hmiss hdep K hK
            match i, ho with
            | 0, ho =>
              obtain rfl := Option.some.inj ho
              have e0 : b.tmps[0]? = some (.slice (some ⟨b1, o1, none⟩) la.length c) := hmiss 0 rfl
              refine want_none rfl ?_
              exact op_move rfl (eval_of e0) (hK _ w1 (Ext.refl _) rfl)
            | 1, ho =>
              obtain rfl := Option.some.inj ho
              have e5 : b.tmps[5]? = some (.int .i64 (j : Int)) := hmiss 5 rfl
              refine want_none rfl ?_
              exact op_move rfl (eval_of e5) (hK _ w1 (Ext.refl _) rfl)
            | 2, ho =>
              obtain rfl := Option.some.inj ho
              obtain ⟨v17, g17, e17⟩ := hdep 0 rfl
              have g17 : v17 = .slice (some ⟨b1, o1, none⟩) la.length c := g17
              subst g17
              have e17 := e17 17 rfl
              obtain ⟨v18, g18, e18⟩ := hdep 1 rfl
              have g18 : v18 = .int .i64 (j : Int) := g18
              subst g18
              have e18 := e18 18 rfl
              refine want_none rfl ?_
              exact op_run (by unfold execOp; simp [e17, e18, Act.eval, go_sem, hlt, hj0]) (hK _ w1 (Ext.refl _) rfl)
            | 3, ho =>
              obtain rfl := Option.some.inj ho
              obtain ⟨v19, g19, e19⟩ := hdep 2 rfl
              have g19 : v19 = .pointer (some ⟨b1, o1 + j * 17, none⟩) := g19
              subst g19
              have e19 := e19 19 rfl
              refine want_none rfl ?_
              exact wp_load_mid 32 (.tmp 19) rfl (b1) (o1 + j * 17) (eval_of e19) (x.cells) _ (HRX.out _ hx) Tryd.underlying32 rfl (by kernel_rfl) (hK _ w1 (Ext.refl _) rfl)
            | 4, ho =>
              obtain rfl := Option.some.inj ho
              have e1 : b.tmps[1]? = some (.slice (some ⟨b2, o2, none⟩) lb.length c2) := hmiss 1 rfl
              refine want_none rfl ?_
              exact op_move rfl (eval_of e1) (hK _ w1 (Ext.refl _) rfl)
            | 5, ho =>
              obtain rfl := Option.some.inj ho
              have e5 : b.tmps[5]? = some (.int .i64 (j : Int)) := hmiss 5 rfl
              refine want_none rfl ?_
              exact op_move rfl (eval_of e5) (hK _ w1 (Ext.refl _) rfl)
            | 6, ho =>
              obtain rfl := Option.some.inj ho
              obtain ⟨v21, g21, e21⟩ := hdep 4 rfl
              have g21 : v21 = .slice (some ⟨b2, o2, none⟩) lb.length c2 := g21
              subst g21
              have e21 := e21 21 rfl
              obtain ⟨v22, g22, e22⟩ := hdep 5 rfl
              have g22 : v22 = .int .i64 (j : Int) := g22
              subst g22
              have e22 := e22 22 rfl
              refine want_none rfl ?_
              exact op_run (by unfold execOp; simp [e21, e22, Act.eval, go_sem, hlt2, hj0]) (hK _ w1 (Ext.refl _) rfl)
            | 7, ho =>
              obtain rfl := Option.some.inj ho
              obtain ⟨v23, g23, e23⟩ := hdep 6 rfl
              have g23 : v23 = .pointer (some ⟨b2, o2 + j * 17, none⟩) := g23
              subst g23
              have e23 := e23 23 rfl
              refine want_none rfl ?_
              exact wp_load_mid 32 (.tmp 23) rfl (b2) (o2 + j * 17) (eval_of e23) (y.cells) _ (HRY.out _ hx) Tryd.underlying32 rfl (by kernel_rfl) (hK _ w1 (Ext.refl _) rfl)
            | 8, ho =>
              obtain rfl := Option.some.inj ho
              obtain ⟨v20, g20, e20⟩ := hdep 3 rfl
              have g20 : v20 = .agg x.cells.toArray := g20
              subst g20
              have e20 := e20 20 rfl
              obtain ⟨v24, g24, e24⟩ := hdep 7 rfl
              have g24 : v24 = .agg y.cells.toArray := g24
              subst g24
              have e24 := e24 24 rfl
              refine want_none rfl ?_
              exact op_run (by unfold execOp; simp [e20, e24, Act.eval, go_sem, hn]) (hK _ w1 (Ext.refl _) rfl)
            | i + 9, ho => cases ho
          · intro V w9 hx hg
            have g0 : V 0 = .slice (some ⟨b1, o1, none⟩) la.length c := hg 0 (by decide)
            have g1 : V 1 = .int .i64 (j : Int) := hg 1 (by decide)
            have g2 : V 2 = .pointer (some ⟨b1, o1 + j * 17, none⟩) := hg 2 (by decide)
            have g3 : V 3 = .agg x.cells.toArray := hg 3 (by decide)
            have g4 : V 4 = .slice (some ⟨b2, o2, none⟩) lb.length c2 := hg 4 (by decide)
            have g5 : V 5 = .int .i64 (j : Int) := hg 5 (by decide)
            have g6 : V 6 = .pointer (some ⟨b2, o2 + j * 17, none⟩) := hg 6 (by decide)
            have g7 : V 7 = .agg y.cells.toArray := hg 7 (by decide)
            have g8 : V 8 = .bool false := hg 8 (by decide)
            simp only [List.length_cons, List.length_nil, fillAllN, dstOf, Act.put, List.getElem?_toArray, List.getElem?_cons_zero, List.getElem?_cons_succ, Option.bind_some, g0, g1, g2, g3, g4, g5, g6, g7, g8, List.setIfInBounds_toArray, List.set_cons_zero, List.set_cons_succ]
            clear g0 g1 g2 g3 g4 g5 g6 g7 g8 hg
            have HX9 := Lib.hid (HX.out.trans hx)
            go_wp2_with fail
            go_roundw
            case rel =>
              refine ⟨j + 1, by omega, by go_num, fun i x' y' hi h h' => ?_, HX9.out⟩
              rcases Nat.lt_succ_iff_lt_or_eq.1 hi with h1 | rfl
              · exact HNO.out i x' y' h1 h h'
              · rw [HXJ.out] at h; injection h with h; rw [HYJ.out] at h'; injection h' with h'; subst h h'; simpa using HBE.out
            case measure => simp [intOf]; omega
        · go_upto_region 6 with fail
          refine wp_region_rel (fun i v w' => match i with
              | 0 => v = .slice (some ⟨b1, o1, none⟩) la.length c
              | 1 => v = .int .i64 (j : Int)
              | 2 => v = .pointer (some ⟨b1, o1 + j * 17, none⟩)
              | 3 => v = .agg x.cells.toArray
              | 4 => v = .slice (some ⟨b2, o2, none⟩) lb.length c2
              | 5 => v = .int .i64 (j : Int)
              | 6 => v = .pointer (some ⟨b2, o2 + j * 17, none⟩)
              | 7 => v = .agg y.cells.toArray
              | 8 => v = .bool true
              | _ => True) hm (by kernel_rfl) (by kernel_rfl) rfl ?_ ?_ ?_
          · intro i v w1 w2 hx h
            match i, h with
            | 0, h => exact h
            | 1, h => exact h
            | 2, h => exact h
            | 3, h => exact h
            | 4, h => exact h
            | 5, h => exact h
            | 6, h => exact h
            | 7, h => exact h
            | 8, h => exact h
            | i + 9, h => exact h
          · intro i o ho b w1 hx hmiss hdep K hK
            match i, ho with
            | 0, ho =>
              obtain rfl := Option.some.inj ho
              have e0 : b.tmps[0]? = some (.slice (some ⟨b1, o1, none⟩) la.length c) := hmiss 0 rfl
              refine want_none rfl ?_
              exact op_move rfl (eval_of e0) (hK _ w1 (Ext.refl _) rfl)
            | 1, ho =>
              obtain rfl := Option.some.inj ho
              have e5 : b.tmps[5]? = some (.int .i64 (j : Int)) := hmiss 5 rfl
              refine want_none rfl ?_
              exact op_move rfl (eval_of e5) (hK _ w1 (Ext.refl _) rfl)
            | 2, ho =>
              obtain rfl := Option.some.inj ho
              obtain ⟨v17, g17, e17⟩ := hdep 0 rfl
              have g17 : v17 = .slice (some ⟨b1, o1, none⟩) la.length c := g17
              subst g17
              have e17 := e17 17 rfl
              obtain ⟨v18, g18, e18⟩ := hdep 1 rfl
              have g18 : v18 = .int .i64 (j : Int) := g18
              subst g18
              have e18 := e18 18 rfl
              refine want_none rfl ?_
              exact op_run (by unfold execOp; simp [e17, e18, Act.eval, go_sem, hlt, hj0]) (hK _ w1 (Ext.refl _) rfl)
            | 3, ho =>
              obtain rfl := Option.some.inj ho
              obtain ⟨v19, g19, e19⟩ := hdep 2 rfl
              have g19 : v19 = .pointer (some ⟨b1, o1 + j * 17, none⟩) := g19
              subst g19
              have e19 := e19 19 rfl
              refine want_none rfl ?_
              exact wp_load_mid 32 (.tmp 19) rfl (b1) (o1 + j * 17) (eval_of e19) (x.cells) _ (HRX.out _ hx) Tryd.underlying32 rfl (by kernel_rfl) (hK _ w1 (Ext.refl _) rfl)
            | 4, ho =>
              obtain rfl := Option.some.inj ho
              have e1 : b.tmps[1]? = some (.slice (some ⟨b2, o2, none⟩) lb.length c2) := hmiss 1 rfl
              refine want_none rfl ?_
              exact op_move rfl (eval_of e1) (hK _ w1 (Ext.refl _) rfl)
            | 5, ho =>
              obtain rfl := Option.some.inj ho
              have e5 : b.tmps[5]? = some (.int .i64 (j : Int)) := hmiss 5 rfl
              refine want_none rfl ?_
              exact op_move rfl (eval_of e5) (hK _ w1 (Ext.refl _) rfl)
            | 6, ho =>
              obtain rfl := Option.some.inj ho
              obtain ⟨v21, g21, e21⟩ := hdep 4 rfl
              have g21 : v21 = .slice (some ⟨b2, o2, none⟩) lb.length c2 := g21
              subst g21
              have e21 := e21 21 rfl
              obtain ⟨v22, g22, e22⟩ := hdep 5 rfl
              have g22 : v22 = .int .i64 (j : Int) := g22
              subst g22
              have e22 := e22 22 rfl
              refine want_none rfl ?_
              exact op_run (by unfold execOp; simp [e21, e22, Act.eval, go_sem, hlt2, hj0]) (hK _ w1 (Ext.refl _) rfl)
            | 7, ho =>
              obtain rfl := Option.some.inj ho
              obtain ⟨v23, g23, e23⟩ := hdep 6 rfl
              have g23 : v23 = .pointer (some ⟨b2, o2 + j * 17, none⟩) := g23
              subst g23
              have e23 := e23 23 rfl
              refine want_none rfl ?_
              exact wp_load_mid 32 (.tmp 23) rfl (b2) (o2 + j * 17) (eval_of e23) (y.cells) _ (HRY.out _ hx) Tryd.underlying32 rfl (by kernel_rfl) (hK _ w1 (Ext.refl _) rfl)
            | 8, ho =>
              obtain rfl := Option.some.inj ho
              obtain ⟨v20, g20, e20⟩ := hdep 3 rfl
              have g20 : v20 = .agg x.cells.toArray := g20
              subst g20
              have e20 := e20 20 rfl
              obtain ⟨v24, g24, e24⟩ := hdep 7 rfl
              have g24 : v24 = .agg y.cells.toArray := g24
              subst g24
              have e24 := e24 24 rfl
              refine want_none rfl ?_
              exact op_run (by unfold execOp; simp [e20, e24, Act.eval, go_sem, hn]) (hK _ w1 (Ext.refl _) rfl)
            | i + 9, ho => cases ho
          · intro V w9 hx hg
            have g0 : V 0 = .slice (some ⟨b1, o1, none⟩) la.length c := hg 0 (by decide)
            have g1 : V 1 = .int .i64 (j : Int) := hg 1 (by decide)
            have g2 : V 2 = .pointer (some ⟨b1, o1 + j * 17, none⟩) := hg 2 (by decide)
            have g3 : V 3 = .agg x.cells.toArray := hg 3 (by decide)
            have g4 : V 4 = .slice (some ⟨b2, o2, none⟩) lb.length c2 := hg 4 (by decide)
            have g5 : V 5 = .int .i64 (j : Int) := hg 5 (by decide)
            have g6 : V 6 = .pointer (some ⟨b2, o2 + j * 17, none⟩) := hg 6 (by decide)
            have g7 : V 7 = .agg y.cells.toArray := hg 7 (by decide)
            have g8 : V 8 = .bool true := hg 8 (by decide)
            simp only [List.length_cons, List.length_nil, fillAllN, dstOf, Act.put, List.getElem?_toArray, List.getElem?_cons_zero, List.getElem?_cons_succ, Option.bind_some, g0, g1, g2, g3, g4, g5, g6, g7, g8, List.setIfInBounds_toArray, List.set_cons_zero, List.set_cons_succ]
            clear g0 g1 g2 g3 g4 g5 g6 g7 g8 hg
            have HX9 := Lib.hid (HX.out.trans hx)
            go_wp2_with fail
            go_ret
            exact ⟨ret_bool (same_no HXJ.out HYJ.out (by simpa using HBE.out)).symm, HX9.out⟩
      · obtain rfl : j = la.length := by omega
        go_wp2
        go_ret
        exact ⟨ret_bool (same_yes HL.out HNO.out).symm, HX.out⟩
  · have hb : ((la.length : Int) != (lb.length : Int)) = true := by rw [bne_iff_ne]; omega
    have HL := Lib.hid hl
    clear hl
    go_enter Tryd.func15, Tryd.ntmps15
    go_wp2
    go_ret
    exact ⟨ret_bool (decide_eq_false (fun h => HL.out (by rw [h]))).symm, Ext.refl _⟩
set_option maxRecDepth 100000 in
set_option maxHeartbeats 4000000 in
theorem refSameNm_any (A A2 : Option Addr) (c c2 : Nat) (la lb : List Nm) (w : World) (hs : Sv w w.heap.size 2 A c (rowsN la)) (hs2 : Sv w w.heap.size 2 A2 c2 (rowsN lb)) (hla : la.length ≤ 1000000) :
    Calls Tryd.prog 18 #[.slice A la.length c, .slice A2 lb.length c2] w fun e w' => e = .returned (.bool (decide (la = lb))) ∧ Ext w w' := by
  have hm := mixed
  have HS := Lib.hid hs; clear hs
  have HS2 := Lib.hid hs2; clear hs2
  by_cases hl : la.length = lb.length
  · have HL := Lib.hid hl
    have hb : ((la.length : Int) != (lb.length : Int)) = false := by simp [hl]
    clear hl
    go_enter Tryd.func18, Tryd.ntmps18
    go_wp2
    go_loopw [5] (fun i wr => ∃ j : Nat, j ≤ la.length ∧ i = .int .i64 j ∧ (∀ (i : Nat) (x y : Nm), i < j → la[i]? = some x → lb[i]? = some y → x = y) ∧ Ext w wr) (fun i _ => la.length - (intOf i).toNat)
    case atStart => exact ⟨0, Nat.zero_le _, rfl, fun i x y hi => by omega, Ext.refl _⟩
    case round =>
      obtain ⟨j, hj, rfl, hno, hx⟩ := hrel
      have HNO := Lib.hid hno; clear hno
      have HX := Lib.hid hx
      by_cases hlt : j < la.length
      · obtain ⟨x, hxj⟩ : ∃ x, la[j]? = some x := ⟨_, List.getElem?_eq_getElem hlt⟩
        have hlt2 : j < lb.length := by have := HL.out; omega
        obtain ⟨y, hyj⟩ : ∃ y, lb[j]? = some y := ⟨_, List.getElem?_eq_getElem hlt2⟩
        obtain ⟨b1, o1, rfl, hbl, hra⟩ := nm_rng (HS.out.ext hx) hxj
        obtain ⟨b2, o2, rfl, hbl2, hrb⟩ := nm_rng (HS2.out.ext hx) hyj
        have HRX := Lib.hid (fun w2 (h : Ext wr w2) => rangeAt_ext hra hbl h)
        have HRY := Lib.hid (fun w2 (h : Ext wr w2) => rangeAt_ext hrb hbl2 h)
        have hn := neqNm_run x y
        have HXJ := Lib.hid hxj
        have HYJ := Lib.hid hyj
        have hj0 : 0 ≤ (j : Int) := by omega
        have hj1 : ¬ ((la.length : Int) ≤ (j : Int)) := by omega
        have hj2 : ¬ ((lb.length : Int) ≤ (j : Int)) := by omega
        generalize hbe : decide (x ≠ y) = be at hn
        have HBE := Lib.hid hbe
        clear hxj hyj hbe hx hra hrb hbl hbl2
        cases be
        · go_upto_region 6 with fail
          refine wp_region_rel (fun i v w' => match i with
              | 0 => v = .slice (some ⟨b1, o1, none⟩) la.length c
              | 1 => v = .int .i64 (j : Int)
              | 2 => v = .pointer (some ⟨b1, o1 + j * 2, none⟩)
              | 3 => v = .agg x.cells.toArray
              | 4 => v = .slice (some ⟨b2, o2, none⟩) lb.length c2
              | 5 => v = .int .i64 (j : Int)
              | 6 => v = .pointer (some ⟨b2, o2 + j * 2, none⟩)
              | 7 => v = .agg y.cells.toArray
              | 8 => v = .bool false
              | _ => True) hm (by kernel_rfl) (by kernel_rfl) rfl ?_ ?_ ?_
          · intro i v w1 w2 hx h
            match i, h with
            | 0, h => exact h
            | 1, h => exact h
            | 2, h => exact h
            | 3, h => exact h
            | 4, h => exact h
            | 5, h => exact h
            | 6, h => exact h
            | 7, h => exact h
            | 8, h => exact h
            | i + 9, h => exact h
          · intro i o ho b w1 hx hmiss hdep K hK
            match i, ho with
            | 0, ho =>
              obtain rfl := Option.some.inj ho
              have e0 : b.tmps[0]? = some (.slice (some ⟨b1, o1, none⟩) la.length c) := hmiss 0 rfl
              refine want_none rfl ?_
              exact op_move rfl (eval_of e0) (hK _ w1 (Ext.refl _) rfl)
            | 1, ho =>
              obtain rfl := Option.some.inj ho
              have e5 : b.tmps[5]? = some (.int .i64 (j : Int)) := hmiss 5 rfl
              refine want_none rfl ?_
              exact op_move rfl (eval_of e5) (hK _ w1 (Ext.refl _) rfl)
            | 2, ho =>
              obtain rfl := Option.some.inj ho
              obtain ⟨v17, g17, e17⟩ := hdep 0 rfl
              have g17 : v17 = .slice (some ⟨b1, o1, none⟩) la.length c := g17
              subst g17
              have e17 := e17 17 rfl
              obtain ⟨v18, g18, e18⟩ := hdep 1 rfl
              have g18 : v18 = .int .i64 (j : Int) := g18
              subst g18
              have e18 := e18 18 rfl
              refine want_none rfl ?_
              exact op_run (by unfold execOp; simp [e17, e18, Act.eval, go_sem, hlt, hj0]) (hK _ w1 (Ext.refl _) rfl)
            | 3, ho =>
              obtain rfl := Option.some.inj ho
              obtain ⟨v19, g19, e19⟩ := hdep 2 rfl
              have g19 : v19 = .pointer (some ⟨b1, o1 + j * 2, none⟩) := g19
              subst g19
              have e19 := e19 19 rfl
              refine want_none rfl ?_
              exact wp_load_mid 24 (.tmp 19) rfl (b1) (o1 + j * 2) (eval_of e19) (x.cells) _ (HRX.out _ hx) Tryd.underlying24 rfl (by kernel_rfl) (hK _ w1 (Ext.refl _) rfl)
            | 4, ho =>
              obtain rfl := Option.some.inj ho
              have e1 : b.tmps[1]? = some (.slice (some ⟨b2, o2, none⟩) lb.length c2) := hmiss 1 rfl
              refine want_none rfl ?_
              exact op_move rfl (eval_of e1) (hK _ w1 (Ext.refl _) rfl)
            | 5, ho =>
              obtain rfl := Option.some.inj ho
              have e5 : b.tmps[5]? = some (.int .i64 (j : Int)) := hmiss 5 rfl
              refine want_none rfl ?_
              exact op_move rfl (eval_of e5) (hK _ w1 (Ext.refl _) rfl)
            | 6, ho =>
              obtain rfl := Option.some.inj ho
              obtain ⟨v21, g21, e21⟩ := hdep 4 rfl
              have g21 : v21 = .slice (some ⟨b2, o2, none⟩) lb.length c2 := g21
              subst g21
              have e21 := e21 21 rfl
              obtain ⟨v22, g22, e22⟩ := hdep 5 rfl
              have g22 : v22 = .int .i64 (j : Int) := g22
              subst g22
              have e22 := e22 22 rfl
              refine want_none rfl ?_
              exact op_run (by unfold execOp; simp [e21, e22, Act.eval, go_sem, hlt2, hj0]) (hK _ w1 (Ext.refl _) rfl)
            | 7, ho =>
              obtain rfl := Option.some.inj ho
              obtain ⟨v23, g23, e23⟩ := hdep 6 rfl
              have g23 : v23 = .pointer (some ⟨b2, o2 + j * 2, none⟩) := g23
              subst g23
              have e23 := e23 23 rfl
              refine want_none rfl ?_
              exact wp_load_mid 24 (.tmp 23) rfl (b2) (o2 + j * 2) (eval_of e23) (y.cells) _ (HRY.out _ hx) Tryd.underlying24 rfl (by kernel_rfl) (hK _ w1 (Ext.refl _) rfl)
            | 8, ho =>
              obtain rfl := Option.some.inj ho
              obtain ⟨v20, g20, e20⟩ := hdep 3 rfl
              have g20 : v20 = .agg x.cells.toArray := g20
              subst g20
              have e20 := e20 20 rfl
              obtain ⟨v24, g24, e24⟩ := hdep 7 rfl
              have g24 : v24 = .agg y.cells.toArray := g24
              subst g24
              have e24 := e24 24 rfl
              refine want_none rfl ?_
              exact op_run (by unfold execOp; simp [e20, e24, Act.eval, go_sem, hn]) (hK _ w1 (Ext.refl _) rfl)
            | i + 9, ho => cases ho
          · intro V w9 hx hg
            have g0 : V 0 = .slice (some ⟨b1, o1, none⟩) la.length c := hg 0 (by decide)
            have g1 : V 1 = .int .i64 (j : Int) := hg 1 (by decide)
            have g2 : V 2 = .pointer (some ⟨b1, o1 + j * 2, none⟩) := hg 2 (by decide)
            have g3 : V 3 = .agg x.cells.toArray := hg 3 (by decide)
            have g4 : V 4 = .slice (some ⟨b2, o2, none⟩) lb.length c2 := hg 4 (by decide)
            have g5 : V 5 = .int .i64 (j : Int) := hg 5 (by decide)
            have g6 : V 6 = .pointer (some ⟨b2, o2 + j * 2, none⟩) := hg 6 (by decide)
            have g7 : V 7 = .agg y.cells.toArray := hg 7 (by decide)
            have g8 : V 8 = .bool false := hg 8 (by decide)
            simp only [List.length_cons, List.length_nil, fillAllN, dstOf, Act.put, List.getElem?_toArray, List.getElem?_cons_zero, List.getElem?_cons_succ, Option.bind_some, g0, g1, g2, g3, g4, g5, g6, g7, g8, List.setIfInBounds_toArray, List.set_cons_zero, List.set_cons_succ]
            clear g0 g1 g2 g3 g4 g5 g6 g7 g8 hg
            have HX9 := Lib.hid (HX.out.trans hx)
            go_wp2_with fail
            go_roundw
            case rel =>
              refine ⟨j + 1, by omega, by go_num, fun i x' y' hi h h' => ?_, HX9.out⟩
              rcases Nat.lt_succ_iff_lt_or_eq.1 hi with h1 | rfl
              · exact HNO.out i x' y' h1 h h'
              · rw [HXJ.out] at h; injection h with h; rw [HYJ.out] at h'; injection h' with h'; subst h h'; simpa using HBE.out
            case measure => simp [intOf]; omega
        · go_upto_region 6 with fail
          refine wp_region_rel (fun i v w' => match i with
              | 0 => v = .slice (some ⟨b1, o1, none⟩) la.length c
              | 1 => v = .int .i64 (j : Int)
              | 2 => v = .pointer (some ⟨b1, o1 + j * 2, none⟩)
              | 3 => v = .agg x.cells.toArray
              | 4 => v = .slice (some ⟨b2, o2, none⟩) lb.length c2
              | 5 => v = .int .i64 (j : Int)
              | 6 => v = .pointer (some ⟨b2, o2 + j * 2, none⟩)
              | 7 => v = .agg y.cells.toArray
              | 8 => v = .bool true
              | _ => True) hm (by kernel_rfl) (by kernel_rfl) rfl ?_ ?_ ?_
          · intro i v w1 w2 hx h
            match i, h with
            | 0, h => exact h
            | 1, h => exact h
            | 2, h => exact h
            | 3, h => exact h
            | 4, h => exact h
            | 5, h => exact h
            | 6, h => exact h
            | 7, h => exact h
            | 8, h => exact h
            | i + 9, h => exact h
          · intro i o ho b w1 hx hmiss hdep K hK
            match i, ho with
            | 0, ho =>
              obtain rfl := Option.some.inj ho
              have e0 : b.tmps[0]? = some (.slice (some ⟨b1, o1, none⟩) la.length c) := hmiss 0 rfl
              refine want_none rfl ?_
              exact op_move rfl (eval_of e0) (hK _ w1 (Ext.refl _) rfl)
            | 1, ho =>
              obtain rfl := Option.some.inj ho
              have e5 : b.tmps[5]? = some (.int .i64 (j : Int)) := hmiss 5 rfl
              refine want_none rfl ?_
              exact op_move rfl (eval_of e5) (hK _ w1 (Ext.refl _) rfl)
            | 2, ho =>
              obtain rfl := Option.some.inj ho
              obtain ⟨v17, g17, e17⟩ := hdep 0 rfl
              have g17 : v17 = .slice (some ⟨b1, o1, none⟩) la.length c := g17
              subst g17
              have e17 := e17 17 rfl
              obtain ⟨v18, g18, e18⟩ := hdep 1 rfl
              have g18 : v18 = .int .i64 (j : Int) := g18
              subst g18
              have e18 := e18 18 rfl
              refine want_none rfl ?_
              exact op_run (by unfold execOp; simp [e17, e18, Act.eval, go_sem, hlt, hj0]) (hK _ w1 (Ext.refl _) rfl)
            | 3, ho =>
              obtain rfl := Option.some.inj ho
              obtain ⟨v19, g19, e19⟩ := hdep 2 rfl
              have g19 : v19 = .pointer (some ⟨b1, o1 + j * 2, none⟩) := g19
              subst g19
              have e19 := e19 19 rfl
              refine want_none rfl ?_
              exact wp_load_mid 24 (.tmp 19) rfl (b1) (o1 + j * 2) (eval_of e19) (x.cells) _ (HRX.out _ hx) Tryd.underlying24 rfl (by kernel_rfl) (hK _ w1 (Ext.refl _) rfl)
            | 4, ho =>
              obtain rfl := Option.some.inj ho
              have e1 : b.tmps[1]? = some (.slice (some ⟨b2, o2, none⟩) lb.length c2) := hmiss 1 rfl
              refine want_none rfl ?_
              exact op_move rfl (eval_of e1) (hK _ w1 (Ext.refl _) rfl)
            | 5, ho =>
              obtain rfl := Option.some.inj ho
              have e5 : b.tmps[5]? = some (.int .i64 (j : Int)) := hmiss 5 rfl
              refine want_none rfl ?_
              exact op_move rfl (eval_of e5) (hK _ w1 (Ext.refl _) rfl)
            | 6, ho =>
              obtain rfl := Option.some.inj ho
              obtain ⟨v21, g21, e21⟩ := hdep 4 rfl
              have g21 : v21 = .slice (some ⟨b2, o2, none⟩) lb.length c2 := g21
              subst g21
              have e21 := e21 21 rfl
              obtain ⟨v22, g22, e22⟩ := hdep 5 rfl
              have g22 : v22 = .int .i64 (j : Int) := g22
              subst g22
              have e22 := e22 22 rfl
              refine want_none rfl ?_
              exact op_run (by unfold execOp; simp [e21, e22, Act.eval, go_sem, hlt2, hj0]) (hK _ w1 (Ext.refl _) rfl)
            | 7, ho =>
              obtain rfl := Option.some.inj ho
              obtain ⟨v23, g23, e23⟩ := hdep 6 rfl
              have g23 : v23 = .pointer (some ⟨b2, o2 + j * 2, none⟩) := g23
              subst g23
              have e23 := e23 23 rfl
              refine want_none rfl ?_
              exact wp_load_mid 24 (.tmp 23) rfl (b2) (o2 + j * 2) (eval_of e23) (y.cells) _ (HRY.out _ hx) Tryd.underlying24 rfl (by kernel_rfl) (hK _ w1 (Ext.refl _) rfl)
            | 8, ho =>
              obtain rfl := Option.some.inj ho
              obtain ⟨v20, g20, e20⟩ := hdep 3 rfl
              have g20 : v20 = .agg x.cells.toArray := g20
              subst g20
              have e20 := e20 20 rfl
              obtain ⟨v24, g24, e24⟩ := hdep 7 rfl
              have g24 : v24 = .agg y.cells.toArray := g24
              subst g24
              have e24 := e24 24 rfl
              refine want_none rfl ?_
              exact op_run (by unfold execOp; simp [e20, e24, Act.eval, go_sem, hn]) (hK _ w1 (Ext.refl _) rfl)
            | i + 9, ho => cases ho
          · intro V w9 hx hg
            have g0 : V 0 = .slice (some ⟨b1, o1, none⟩) la.length c := hg 0 (by decide)
            have g1 : V 1 = .int .i64 (j : Int) := hg 1 (by decide)
            have g2 : V 2 = .pointer (some ⟨b1, o1 + j * 2, none⟩) := hg 2 (by decide)
            have g3 : V 3 = .agg x.cells.toArray := hg 3 (by decide)
            have g4 : V 4 = .slice (some ⟨b2, o2, none⟩) lb.length c2 := hg 4 (by decide)
            have g5 : V 5 = .int .i64 (j : Int) := hg 5 (by decide)
            have g6 : V 6 = .pointer (some ⟨b2, o2 + j * 2, none⟩) := hg 6 (by decide)
            have g7 : V 7 = .agg y.cells.toArray := hg 7 (by decide)
            have g8 : V 8 = .bool true := hg 8 (by decide)
            simp only [List.length_cons, List.length_nil, fillAllN, dstOf, Act.put, List.getElem?_toArray, List.getElem?_cons_zero, List.getElem?_cons_succ, Option.bind_some, g0, g1, g2, g3, g4, g5, g6, g7, g8, List.setIfInBounds_toArray, List.set_cons_zero, List.set_cons_succ]
            clear g0 g1 g2 g3 g4 g5 g6 g7 g8 hg
            have HX9 := Lib.hid (HX.out.trans hx)
            go_wp2_with fail
            go_ret
            exact ⟨ret_bool (same_no HXJ.out HYJ.out (by simpa using HBE.out)).symm, HX9.out⟩
      · obtain rfl : j = la.length := by omega
        go_wp2
        go_ret
        exact ⟨ret_bool (same_yes HL.out HNO.out).symm, HX.out⟩
  · have hb : ((la.length : Int) != (lb.length : Int)) = true := by rw [bne_iff_ne]; omega
    have HL := Lib.hid hl
    clear hl
    go_enter Tryd.func18, Tryd.ntmps18
    go_wp2
    go_ret
    exact ⟨ret_bool (decide_eq_false (fun h => HL.out (by rw [h]))).symm, Ext.refl _⟩
end Go.Proofs.YtcfebfblmmbeaaaDoor

/- The reference's Status. -/
namespace Go.Proofs.YtcfebfblmmbeaaaDoor
open Go Go.RowKit

set_option maxRecDepth 100000 in
set_option maxHeartbeats 8000000 in
theorem refStatus_any (A : Option Addr) (c : Nat) (l : List Ed) (n : Nm) (w : World) (hs : Sv w w.heap.size 17 A c (rowsE l)) (hb : l.length ≤ 1034834473200) :
    Calls Tryd.prog 10 #[.slice A l.length c, nmV n] w (RetSt l n w) := by
  have hm := mixed
  have hx0 : Ext w ((w.alloc (.cells n.cells.toArray 24)).alloc (.cells ([.int .i64 0, .int .i64 0] : List Value).toArray 24)) := ((Ext.refl w).alloc _).alloc _
  have HA3 := Lib.hid ((Arr.new w 24 n.cells).alloc (.cells ([.int .i64 0, .int .i64 0] : List Value).toArray 24))
  have HA5 := Lib.hid (Arr.new1 w (.cells n.cells.toArray 24) 24 [.int .i64 0, .int .i64 0])
  have HFK := Lib.hid (refIsForked_any A c l n _ (hs.ext hx0) hb)
  have HSE := Lib.hid (fun (w' : World) (h : Ext w w') => refSet_any A c l w' (hs.ext h) hb)
  have HX0 := Lib.hid hx0
  clear hs hx0
  unfold nmV
  go_enter Tryd.func10, Tryd.ntmps10
  go_upto_region 1 with fail
  obtain ⟨W0, hW⟩ : ∃ W, W = (w.alloc (.cells n.cells.toArray 24)).alloc (.cells ([.int .i64 0, .int .i64 0] : List Value).toArray 24) := ⟨_, rfl⟩
  have hW' : W0 = (w.alloc (.cells #[.int .i64 n.site, .int .i64 n.seq] 24)).alloc (.cells #[.int .i64 0, .int .i64 0] 24) := hW
  rw [← hW] at HA3 HA5 HFK HX0
  rw [← hW']
  clear hW hW'
  go_upto_region 2 with (first
    | (refine wpList_load_blk 24 (.tmp 3) rfl rfl HA3.out rfl _ Tryd.underlying24 rfl (by kernel_rfl) ?_)
    | (go_at_call 34; refine HFK.out.mono ?_; rintro e W1 ⟨bf, rfl, hbf, x1⟩))
  have HA31 := Lib.hid (HA3.out.ext x1); have HA51 := Lib.hid (HA5.out.ext x1); have HX1 := Lib.hid (HX0.out.trans x1)
  clear x1
  cases bf
  · have HNF := Lib.hid (show ¬ Forked l n from fun h => by have := hbf.2 h; cases this)
    clear hbf
    go_wp2_with (go_at_call 17; refine (HSE.out _ HX1.out).mono ?_; rintro e W2 ⟨m, him, A2, c2, rfl, hs2, x2⟩)
    have hmm := Nat.le_trans him.len hb
    have hsq : ∀ u, u ∈ m → 1 ≤ u.st.seq ∧ u.st.seq ≤ 1000 := fun u hu => (formed_st ((him.mem u).1 hu).2.1).2.2.2
    have hM : (fun y => y ∈ m) = SetP l := by funext y; exact propext (him.mem y)
    have HSQ := Lib.hid hsq
    have HM := Lib.hid (fun x => him.mem x)
    have HUD := Lib.hid (fun (x : Ed) (w' : World) (h : Ext W2 w') => refundoer_any m hsq hmm A2 c2 _ x w' (Nat.le_refl _) (hs2.ext h))
    rw [hM] at HUD
    have HS2 := Lib.hid hs2; have HX2 := Lib.hid (HX1.out.trans x2)
    have HA32 := Lib.hid (HA31.out.ext x2); have HA52 := Lib.hid (HA51.out.ext x2)
    clear hs2 x2 him hsq hM
    go_loopw [8, 9] (fun iv _ wr => ∃ k : Nat, iv = .int .i64 k ∧ k ≤ m.length ∧ (∀ (i : Nat) (y : Ed), i < k → m[i]? = some y → nmE y ≠ n) ∧ Ext W2 wr) (fun iv _ _ => m.length - (intOf iv).toNat)
    case atStart => exact ⟨0, rfl, Nat.zero_le _, fun i y hi => by omega, Ext.refl _⟩
    case round =>
      obtain ⟨k, rfl, hk, hno, hx⟩ := hrel
      have HNO := Lib.hid hno
      have HX := Lib.hid hx
      clear hno
      by_cases hlt : k < m.length
      · obtain ⟨x, hxk⟩ : ∃ x, m[k]? = some x := ⟨_, List.getElem?_eq_getElem hlt⟩
        obtain ⟨bq, oq, hA, hbl, hra⟩ := ed_row (HS2.out.ext hx) hxk
        have HXK := Lib.hid hxk
        have HSA := Lib.hid hA
        subst hA
        have HRX := Lib.hid (fun w2 (h : Ext wr w2) => rangeAt_ext hra hbl h)
        have HA3R := Lib.hid (HA32.out.ext hx); have HA5R := Lib.hid (HA52.out.ext hx)
        have hk0 : 0 ≤ (k : Int) := by omega
        have hk1 : ¬ ((m.length : Int) ≤ (k : Int)) := by omega
        have hn := neqNm_run (nmE x) n
        clear hxk hra hbl hx
        by_cases hne : nmE x = n
        · rw [show decide (nmE x ≠ n) = false by simp [hne]] at hn
          have HNE := Lib.hid hne
          clear hne
          go_upto_region 8 with fail
          refine wp_region_rel (fun i v w' => match i with
              | 0 => v = .slice (some ⟨bq, oq, none⟩) m.length c2
              | 1 => v = .int .i64 (k : Int)
              | 2 => v = .pointer (some ⟨bq, oq + k * 17, none⟩)
              | 3 => v = .agg x.cells.toArray
              | 4 => v = .agg (nmE x).cells.toArray
              | 5 => v = .agg n.cells.toArray
              | 6 => v = .bool false
              | _ => True) hm (by kernel_rfl) (by kernel_rfl) rfl ?_ ?_ ?_
          · intro i v w1 w2 hx h
            match i, h with
            | 0, h => exact h
            | 1, h => exact h
            | 2, h => exact h
            | 3, h => exact h
            | 4, h => exact h
            | 5, h => exact h
            | 6, h => exact h
            | i + 7, h => exact h
          · intro i o ho b w1 hx hmiss hdep K hK
            match i, ho with
            | 0, ho =>
              obtain rfl := Option.some.inj ho
              have e7 : b.tmps[7]? = some (.slice (some ⟨bq, oq, none⟩) m.length c2) := hmiss 7 rfl
              refine want_none rfl ?_
              exact op_move rfl (eval_of e7) (hK _ w1 (Ext.refl _) rfl)
            | 1, ho =>
              obtain rfl := Option.some.inj ho
              have e8 : b.tmps[8]? = some (.int .i64 (k : Int)) := hmiss 8 rfl
              refine want_none rfl ?_
              exact op_move rfl (eval_of e8) (hK _ w1 (Ext.refl _) rfl)
            | 2, ho =>
              obtain rfl := Option.some.inj ho
              obtain ⟨v23, g23, e23⟩ := hdep 0 rfl
              have g23 : v23 = .slice (some ⟨bq, oq, none⟩) m.length c2 := g23
              subst g23
              have e23 := e23 23 rfl
              obtain ⟨v24, g24, e24⟩ := hdep 1 rfl
              have g24 : v24 = .int .i64 (k : Int) := g24
              subst g24
              have e24 := e24 24 rfl
              refine want_none rfl ?_
              exact op_run (by unfold execOp; simp [e23, e24, Act.eval, go_sem, hlt, hk0]) (hK _ w1 (Ext.refl _) rfl)
            | 3, ho =>
              obtain rfl := Option.some.inj ho
              obtain ⟨v25, g25, e25⟩ := hdep 2 rfl
              have g25 : v25 = .pointer (some ⟨bq, oq + k * 17, none⟩) := g25
              subst g25
              have e25 := e25 25 rfl
              refine want_none rfl ?_
              exact wp_load_mid 32 (.tmp 25) rfl (bq) (oq + k * 17) (eval_of e25) (x.cells) _ (HRX.out _ hx) Tryd.underlying32 rfl (by kernel_rfl) (hK _ w1 (Ext.refl _) rfl)
            | 4, ho =>
              obtain rfl := Option.some.inj ho
              obtain ⟨v26, g26, e26⟩ := hdep 3 rfl
              have g26 : v26 = .agg x.cells.toArray := g26
              subst g26
              have e26 := e26 26 rfl
              refine want_none rfl ?_
              have hc : Calls Tryd.prog 25 #[.agg x.cells.toArray] w1 fun e w' => ∃ v, e = .returned v ∧ Ext w1 w' ∧ (v = .agg (nmE x).cells.toArray) := (refName_any x w1).mono fun e w2 ⟨h1, h2⟩ => ⟨_, h1, h2, rfl⟩
              exact op_call (G := fun v w' => v = .agg (nmE x).cells.toArray) rfl (by simp [eval_of e26]) (fun _ _ => by kernel_rfl) hc (fun v w' h1 h2 => hK v w' h1 h2)
            | 5, ho =>
              obtain rfl := Option.some.inj ho
              have e3 : b.tmps[3]? = some (.pointer (some ⟨w.heap.size, 0, none⟩)) := hmiss 3 rfl
              refine want_none rfl ?_
              exact op_loadrow rfl (eval_of e3) (HA3R.out.ext hx) _ Tryd.underlying24 rfl (by kernel_rfl) (hK _ w1 (Ext.refl _) rfl)
            | 6, ho =>
              obtain rfl := Option.some.inj ho
              obtain ⟨v27, g27, e27⟩ := hdep 4 rfl
              obtain rfl := g27
              have e27 := e27 27 rfl
              obtain ⟨v28, g28, e28⟩ := hdep 5 rfl
              have g28 : v28 = .agg n.cells.toArray := g28
              subst g28
              have e28 := e28 28 rfl
              refine want_none rfl ?_
              exact op_run (by unfold execOp; simp [e27, e28, Act.eval, go_sem, hn]) (hK _ w1 (Ext.refl _) rfl)
            | i + 7, ho => cases ho
          · intro V w9 hx hg
            have g0 : V 0 = .slice (some ⟨bq, oq, none⟩) m.length c2 := hg 0 (by decide)
            have g1 : V 1 = .int .i64 (k : Int) := hg 1 (by decide)
            have g2 : V 2 = .pointer (some ⟨bq, oq + k * 17, none⟩) := hg 2 (by decide)
            have g3 : V 3 = .agg x.cells.toArray := hg 3 (by decide)
            have g5 : V 5 = .agg n.cells.toArray := hg 5 (by decide)
            have g6 : V 6 = .bool false := hg 6 (by decide)
            have g4 := hg 4 (by decide)
            simp only [List.length_cons, List.length_nil, fillAllN, dstOf, Act.put, List.getElem?_toArray, List.getElem?_cons_zero, List.getElem?_cons_succ, Option.bind_some, g0, g1, g2, g3, g5, g6, List.setIfInBounds_toArray, List.set_cons_zero, List.set_cons_succ]
            clear g0 g1 g2 g3 g5 g6 hg
            have HX9 := Lib.hid (HX.out.trans hx)
            have HRX9 := Lib.hid (HRX.out _ hx)
            have HA39 := Lib.hid (HA3R.out.ext hx); have HA59 := Lib.hid (HA5R.out.ext hx)
            have HUX := Lib.hid (HUD.out x w9 HX9.out)
            have HMX := Lib.hid ((HM.out x).1 (List.mem_of_getElem? HXK.out))
            clear hx hn
            go_upto_region 10 with (first
              | (with_reducible refine wpList_load_mid rfl 32 (.tmp 33) rfl bq (oq + k * 17) rfl x.cells _ HRX9.out Tryd.underlying32 rfl (by kernel_rfl) ?_)
              | (go_at_call 35; refine HUX.out.mono ?_; rintro e W4 ⟨v, rfl, hbv, x4⟩))
            have HA34 := Lib.hid (HA39.out.ext x4); have HA54 := Lib.hid (HA59.out.ext x4)
            have HX4 := Lib.hid (HX2.out.trans (HX9.out.trans x4))
            have hvp := hbv.pos (fun u hu => (formed_st hu.2.1).2.2.2.1)
            have HBV := Lib.hid hbv
            clear hbv x4
            by_cases hv : v = 0
            · subst hv
              go_wp2_with (refine wpList_store_blk 24 (.tmp 5) (.tmp 38) rfl rfl (HA54.out) [.int .i64 (⟨0, 0⟩ : Nm).site, .int .i64 (⟨0, 0⟩ : Nm).seq] rfl rfl (by kernel_rfl) rfl rfl ?_)
              (try simp only [Exit.inBlock, Exit.then])
              have HF5 := (HA54.out).setRow [.int .i64 (⟨0, 0⟩ : Nm).site, .int .i64 (⟨0, 0⟩ : Nm).seq]
              refine bodyPost_ret (v := .tuple #[.int .i64 1, nmV (⟨0, 0⟩ : Nm)]) ?_ rfl ⟨1, (⟨0, 0⟩ : Nm), .inr (.inr ⟨x, 0, HMX.out, HNE.out, HBV.out, .inl ⟨rfl, rfl, rfl⟩⟩), rfl, (HX4.out).setRow (g := w.heap.size + 1) (by omega) _⟩
              exact results_two_row Tryd.results10 _ _ _ _ _ _ _ rfl HF5 Tryd.underlying24 rfl (by kernel_rfl)
            · have hve : (v == 0) = false := by simpa using hv
              have hv1 : 0 < v := by omega
              go_upto_region 12 with fail
              have hc30 := HA34.out.cell 0
              rw [show n.cells[0]? = some (.int .i64 n.site) from rfl] at hc30
              have hlt3 := HA34.out.lt
              have hG := near_old
              refine wp_region_near_tail 5 (by assumption) (by kernel_rfl) ?_
              simp only [List.take_succ_cons, List.take_zero, List.drop_succ_cons, List.drop_zero]
              repeat (go_big_quiet_step (fail))
              refine wpQuiet_nil ?_
              intro w1 hw1
              have hy := Ext.of_near hw1
              clear hw1
              clear hG
              go_wp2_with (refine wpList_store_blk 24 (.tmp 5) (.tmp 42) rfl rfl (HA54.out.ext hy) [.int .i64 (⟨n.site, v⟩ : Nm).site, .int .i64 (⟨n.site, v⟩ : Nm).seq] rfl rfl (by kernel_rfl) rfl rfl ?_)
              (try simp only [Exit.inBlock, Exit.then])
              have HF5 := (HA54.out.ext hy).setRow [.int .i64 (⟨n.site, v⟩ : Nm).site, .int .i64 (⟨n.site, v⟩ : Nm).seq]
              refine bodyPost_ret (v := .tuple #[.int .i64 2, nmV (⟨n.site, v⟩ : Nm)]) ?_ rfl ⟨2, (⟨n.site, v⟩ : Nm), .inr (.inr ⟨x, v, HMX.out, HNE.out, HBV.out, .inr ⟨hv1, rfl, rfl⟩⟩), rfl, (HX4.out.trans hy).setRow (g := w.heap.size + 1) (by omega) _⟩
              exact results_two_row Tryd.results10 _ _ _ _ _ _ _ rfl HF5 Tryd.underlying24 rfl (by kernel_rfl)
        · rw [show decide (nmE x ≠ n) = true by simp [hne]] at hn
          have HNE := Lib.hid hne
          clear hne
          go_upto_region 8 with fail
          refine wp_region_rel (fun i v w' => match i with
              | 0 => v = .slice (some ⟨bq, oq, none⟩) m.length c2
              | 1 => v = .int .i64 (k : Int)
              | 2 => v = .pointer (some ⟨bq, oq + k * 17, none⟩)
              | 3 => v = .agg x.cells.toArray
              | 4 => v = .agg (nmE x).cells.toArray
              | 5 => v = .agg n.cells.toArray
              | 6 => v = .bool true
              | _ => True) hm (by kernel_rfl) (by kernel_rfl) rfl ?_ ?_ ?_
          · intro i v w1 w2 hx h
            match i, h with
            | 0, h => exact h
            | 1, h => exact h
            | 2, h => exact h
            | 3, h => exact h
            | 4, h => exact h
            | 5, h => exact h
            | 6, h => exact h
            | i + 7, h => exact h
          · intro i o ho b w1 hx hmiss hdep K hK
            match i, ho with
            | 0, ho =>
              obtain rfl := Option.some.inj ho
              have e7 : b.tmps[7]? = some (.slice (some ⟨bq, oq, none⟩) m.length c2) := hmiss 7 rfl
              refine want_none rfl ?_
              exact op_move rfl (eval_of e7) (hK _ w1 (Ext.refl _) rfl)
            | 1, ho =>
              obtain rfl := Option.some.inj ho
              have e8 : b.tmps[8]? = some (.int .i64 (k : Int)) := hmiss 8 rfl
              refine want_none rfl ?_
              exact op_move rfl (eval_of e8) (hK _ w1 (Ext.refl _) rfl)
            | 2, ho =>
              obtain rfl := Option.some.inj ho
              obtain ⟨v23, g23, e23⟩ := hdep 0 rfl
              have g23 : v23 = .slice (some ⟨bq, oq, none⟩) m.length c2 := g23
              subst g23
              have e23 := e23 23 rfl
              obtain ⟨v24, g24, e24⟩ := hdep 1 rfl
              have g24 : v24 = .int .i64 (k : Int) := g24
              subst g24
              have e24 := e24 24 rfl
              refine want_none rfl ?_
              exact op_run (by unfold execOp; simp [e23, e24, Act.eval, go_sem, hlt, hk0]) (hK _ w1 (Ext.refl _) rfl)
            | 3, ho =>
              obtain rfl := Option.some.inj ho
              obtain ⟨v25, g25, e25⟩ := hdep 2 rfl
              have g25 : v25 = .pointer (some ⟨bq, oq + k * 17, none⟩) := g25
              subst g25
              have e25 := e25 25 rfl
              refine want_none rfl ?_
              exact wp_load_mid 32 (.tmp 25) rfl (bq) (oq + k * 17) (eval_of e25) (x.cells) _ (HRX.out _ hx) Tryd.underlying32 rfl (by kernel_rfl) (hK _ w1 (Ext.refl _) rfl)
            | 4, ho =>
              obtain rfl := Option.some.inj ho
              obtain ⟨v26, g26, e26⟩ := hdep 3 rfl
              have g26 : v26 = .agg x.cells.toArray := g26
              subst g26
              have e26 := e26 26 rfl
              refine want_none rfl ?_
              have hc : Calls Tryd.prog 25 #[.agg x.cells.toArray] w1 fun e w' => ∃ v, e = .returned v ∧ Ext w1 w' ∧ (v = .agg (nmE x).cells.toArray) := (refName_any x w1).mono fun e w2 ⟨h1, h2⟩ => ⟨_, h1, h2, rfl⟩
              exact op_call (G := fun v w' => v = .agg (nmE x).cells.toArray) rfl (by simp [eval_of e26]) (fun _ _ => by kernel_rfl) hc (fun v w' h1 h2 => hK v w' h1 h2)
            | 5, ho =>
              obtain rfl := Option.some.inj ho
              have e3 : b.tmps[3]? = some (.pointer (some ⟨w.heap.size, 0, none⟩)) := hmiss 3 rfl
              refine want_none rfl ?_
              exact op_loadrow rfl (eval_of e3) (HA3R.out.ext hx) _ Tryd.underlying24 rfl (by kernel_rfl) (hK _ w1 (Ext.refl _) rfl)
            | 6, ho =>
              obtain rfl := Option.some.inj ho
              obtain ⟨v27, g27, e27⟩ := hdep 4 rfl
              obtain rfl := g27
              have e27 := e27 27 rfl
              obtain ⟨v28, g28, e28⟩ := hdep 5 rfl
              have g28 : v28 = .agg n.cells.toArray := g28
              subst g28
              have e28 := e28 28 rfl
              refine want_none rfl ?_
              exact op_run (by unfold execOp; simp [e27, e28, Act.eval, go_sem, hn]) (hK _ w1 (Ext.refl _) rfl)
            | i + 7, ho => cases ho
          · intro V w9 hx hg
            have g0 : V 0 = .slice (some ⟨bq, oq, none⟩) m.length c2 := hg 0 (by decide)
            have g1 : V 1 = .int .i64 (k : Int) := hg 1 (by decide)
            have g2 : V 2 = .pointer (some ⟨bq, oq + k * 17, none⟩) := hg 2 (by decide)
            have g3 : V 3 = .agg x.cells.toArray := hg 3 (by decide)
            have g5 : V 5 = .agg n.cells.toArray := hg 5 (by decide)
            have g6 : V 6 = .bool true := hg 6 (by decide)
            have g4 := hg 4 (by decide)
            simp only [List.length_cons, List.length_nil, fillAllN, dstOf, Act.put, List.getElem?_toArray, List.getElem?_cons_zero, List.getElem?_cons_succ, Option.bind_some, g0, g1, g2, g3, g5, g6, List.setIfInBounds_toArray, List.set_cons_zero, List.set_cons_succ]
            clear g0 g1 g2 g3 g5 g6 hg
            have HX9 := Lib.hid (HX.out.trans hx)
            clear hx hn
            go_wp2_with fail
            go_roundw
            case rel =>
              refine ⟨k + 1, by go_num, by omega, fun i y hi hy => ?_, HX9.out⟩
              rcases Nat.lt_succ_iff_lt_or_eq.1 hi with h1 | rfl
              · exact HNO.out i y h1 hy
              · rw [HXK.out] at hy; injection hy with hy; subst hy; exact HNE.out
            case measure => simp [intOf]; omega
      · obtain rfl : k = m.length := by omega
        have HNS := Lib.hid (show ∀ x, SetP l x → nmE x ≠ n from fun x hx => by
          obtain ⟨i, hi⟩ := List.getElem?_of_mem ((HM.out x).2 hx)
          exact HNO.out i x (List.getElem?_eq_some_iff.1 hi).1 hi)
        have HA5R := Lib.hid (HA52.out.ext hx)
        clear hx
        go_wp2_with (refine wpList_store_blk 24 (.tmp 5) (.tmp 43) rfl rfl (HA5R.out) [.int .i64 (⟨0, 0⟩ : Nm).site, .int .i64 (⟨0, 0⟩ : Nm).seq] rfl rfl (by kernel_rfl) rfl rfl ?_)
        (try simp only [Exit.inBlock, Exit.then])
        have HF5 := (HA5R.out).setRow [.int .i64 (⟨0, 0⟩ : Nm).site, .int .i64 (⟨0, 0⟩ : Nm).seq]
        refine bodyPost_ret (v := .tuple #[.int .i64 0, nmV (⟨0, 0⟩ : Nm)]) ?_ rfl ⟨0, (⟨0, 0⟩ : Nm), .inr (.inl ⟨HNF.out, HNS.out, rfl, rfl⟩), rfl, (HX2.out.trans HX.out).setRow (g := w.heap.size + 1) (by omega) _⟩
        exact results_two_row Tryd.results10 _ _ _ _ _ _ _ rfl HF5 Tryd.underlying24 rfl (by kernel_rfl)
  · have HFO := Lib.hid (hbf.1 rfl)
    clear hbf
    go_wp2_with (refine wpList_store_blk 24 (.tmp 5) (.tmp 14) rfl rfl (HA51.out) [.int .i64 (⟨0, 0⟩ : Nm).site, .int .i64 (⟨0, 0⟩ : Nm).seq] rfl rfl (by kernel_rfl) rfl rfl ?_)
    (try simp only [Exit.inBlock, Exit.then])
    have HF5 := (HA51.out).setRow [.int .i64 (⟨0, 0⟩ : Nm).site, .int .i64 (⟨0, 0⟩ : Nm).seq]
    refine bodyPost_ret (v := .tuple #[.int .i64 3, nmV (⟨0, 0⟩ : Nm)]) ?_ rfl ⟨3, (⟨0, 0⟩ : Nm), .inl ⟨HFO.out, rfl, rfl⟩, rfl, (HX1.out).setRow (g := w.heap.size + 1) (by omega) _⟩
    exact results_two_row Tryd.results10 _ _ _ _ _ _ _ rfl HF5 Tryd.underlying24 rfl (by kernel_rfl)
end Go.Proofs.YtcfebfblmmbeaaaDoor

/- The reference's Forks. -/
namespace Go.Proofs.YtcfebfblmmbeaaaDoor
open Go Go.RowKit

/-- The forked names before (s, q), in order. -/
structure PFk (l : List Ed) (s q : Int) (o : List Nm) : Prop where
  srt : Srt befN o
  mem : ∀ n, n ∈ o ↔ Forked l n ∧ (n.site < s ∨ (n.site = s ∧ n.seq < q))
theorem Forked.rng {l : List Ed} {n : Nm} (h : Forked l n) : (1 ≤ n.site ∧ n.site ≤ 8) ∧ (1 ≤ n.seq ∧ n.seq ≤ 1000) := by
  obtain ⟨x, _, ⟨_, h2, rfl⟩, _⟩ := h
  exact (formed_st h2).2.2
section
variable {l : List Ed} {s q : Int} {o : List Nm}
theorem PFk.start (l : List Ed) : PFk l 1 1 [] := ⟨List.Pairwise.nil, fun n => ⟨fun h => (by cases h), fun ⟨h1, h2⟩ => by have := h1.rng; omega⟩⟩
theorem PFk.no (h : PFk l s q o) (hf : ¬ Forked l ⟨s, q⟩) : PFk l s (q + 1) o := ⟨h.srt, fun n => by
  rw [h.mem]
  constructor
  · rintro ⟨h1, h2⟩; exact ⟨h1, by omega⟩
  · rintro ⟨h1, h2⟩
    refine ⟨h1, ?_⟩
    by_cases hn : n.site = s ∧ n.seq = q
    · obtain ⟨a, b⟩ := n
      obtain ⟨rfl, rfl⟩ := hn
      exact absurd h1 hf
    · omega⟩
theorem PFk.yes (h : PFk l s q o) (hf : Forked l ⟨s, q⟩) : PFk l s (q + 1) (o ++ [⟨s, q⟩]) := ⟨h.srt.snoc fun n hn => by
    rw [befN_iff]
    exact ((h.mem n).1 hn).2, fun n => by
  rw [List.mem_append, List.mem_singleton, h.mem]
  constructor
  · rintro (⟨h1, h2⟩ | rfl)
    · exact ⟨h1, by omega⟩
    · exact ⟨hf, .inr ⟨rfl, by show q < q + 1; omega⟩⟩
  · rintro ⟨h1, h2⟩
    by_cases hn : n.site = s ∧ n.seq = q
    · obtain ⟨a, b⟩ := n
      obtain ⟨rfl, rfl⟩ := hn
      exact .inr rfl
    · exact .inl ⟨h1, by omega⟩⟩
theorem PFk.row (h : PFk l s 1001 o) : PFk l (s + 1) 1 o := ⟨h.srt, fun n => by
  rw [h.mem]
  constructor
  · rintro ⟨h1, h2⟩; exact ⟨h1, by omega⟩
  · rintro ⟨h1, h2⟩; have := h1.rng; exact ⟨h1, by omega⟩⟩
theorem PFk.done (h : PFk l 9 1 o) : IsForks l o := ⟨h.srt, fun n => by
  rw [h.mem]
  exact ⟨fun h1 => h1.1, fun h1 => ⟨h1, by have := h1.rng; omega⟩⟩⟩
theorem PFk.len (h : PFk l s q o) : o.length ≤ l.length := by
  have h2 := nodup_le (l := o) (m := l.map nmE) (h.srt.nodup ordN) (fun n hn => by obtain ⟨x, _, ⟨h1, _, h3⟩, _⟩ := ((h.mem n).1 hn).1; exact List.mem_map.2 ⟨x, h1, h3⟩)
  rwa [List.length_map] at h2
end
/-- Among the first k: one of that name, and it is forked. -/
def fkU (l : List Ed) (n : Nm) (k : Nat) : Bool := (l.take k).any (fun x => decide (nmE x = n)) && forkB l n
theorem fkU_zero (l : List Ed) (n : Nm) : fkU l n 0 = false := by simp [fkU]
theorem fkU_skip {l : List Ed} {n : Nm} {k : Nat} {x : Ed} (hx : l[k]? = some x) (h : nmE x ≠ n) : fkU l n (k + 1) = fkU l n k := by
  unfold fkU
  rw [take_snocR hx, List.any_append]
  simp [h]
theorem fkU_hit {l : List Ed} {n : Nm} {k : Nat} {x : Ed} (hx : l[k]? = some x) (h : nmE x = n) : fkU l n (k + 1) = forkB l n := by
  unfold fkU
  rw [take_snocR hx, List.any_append]
  simp [h]
theorem fkU_up {l : List Ed} {n : Nm} {k : Nat} (h : fkU l n k = true) : forkB l n = true := by
  unfold fkU at h
  rw [Bool.and_eq_true] at h
  exact h.2
theorem fkU_all (l : List Ed) (n : Nm) : fkU l n l.length = forkB l n := by
  unfold fkU
  rw [List.take_length]
  cases h : forkB l n
  · simp
  · obtain ⟨x, _, ⟨h1, _, h3⟩, _⟩ := (forkB_iff l n).1 h
    rw [Bool.and_true, List.any_eq_true]
    exact ⟨x, h1, by simpa using h3⟩
set_option maxRecDepth 100000 in
set_option maxHeartbeats 8000000 in
theorem refForks_any (A : Option Addr) (c : Nat) (l : List Ed) (w : World) (hs : Sv w w.heap.size 17 A c (rowsE l)) (hb : l.length ≤ 1034834473200) :
    Calls Tryd.prog 20 #[.slice A l.length c] w fun e w' => ∃ f, IsForks l f ∧ RetN f w e w' := by
  obtain ⟨i0, hi, hz0, hz1, hz2⟩ := info_parts infoNm
  have HI := Lib.hid hi; have HZ := Lib.hid hz0; have HZ1 := Lib.hid hz1; have HZ2 := Lib.hid hz2; clear hi hz0 hz1 hz2
  have HS := Lib.hid hs
  have HFK := Lib.hid (fun (n : Nm) (w' : World) (h : Ext w w') => refIsForked_any A c l n w' (hs.ext h) hb)
  have HKB := Lib.hid (fun n => forkB_iff l n)
  clear hs
  go_enter Tryd.func20, Tryd.ntmps20
  go_wp2_with fail
  go_loopw [3, 4, 5, 6, 7] (fun ov sv _ _ _ wr => ∃ (s : Int) (o : List Nm), sv = .int .i64 s ∧ (1 ≤ s ∧ s ≤ 9) ∧ PFk l s 1 o ∧ wr.ownsRow w.heap.size 24 2 ov o.length (rowsN o).flatten ∧ Ext w wr) (fun _ sv _ _ _ _ => (9 - intOf sv).toNat)
  case atStart => exact ⟨1, [], rfl, by omega, PFk.start l, World.ownsRow_nil _ _ _ _, Ext.refl _⟩
  case round =>
    obtain ⟨s, o, rfl, hs1, hp, ho, hx⟩ := hrel
    have HO := Lib.hid ho; have HX := Lib.hid hx; have HP := Lib.hid hp
    clear ho hx hp
    by_cases hs8 : s ≤ 8
    · go_wp2_with fail
      go_loopw [3, 5, 6, 7] (fun ov qv _ _ wr => ∃ (q : Int) (o : List Nm), qv = .int .i64 q ∧ (1 ≤ q ∧ q ≤ 1001) ∧ PFk l s q o ∧ wr.ownsRow w.heap.size 24 2 ov o.length (rowsN o).flatten ∧ Ext w wr) (fun _ qv _ _ _ => (1001 - intOf qv).toNat)
      case atStart => exact ⟨1, o, rfl, by omega, HP.out, HO.out, HX.out⟩
      case round =>
        obtain ⟨q, o2, rfl, hq1, hp, ho, hx⟩ := hrel
        clear HO HX HP
        have HO := Lib.hid ho; have HX := Lib.hid hx; have HP := Lib.hid hp
        have hol := hp.len
        obtain ⟨A1, c1, rfl, _⟩ := own_form ho
        clear ho hx hp
        by_cases hq8 : q ≤ 1000
        · go_wp2_with fail
          go_loopw [6, 7] (fun fv kv wy => ∃ k : Nat, kv = .int .i64 k ∧ k ≤ l.length ∧ fv = .bool (fkU l ⟨s, q⟩ k) ∧ Ext wr wy) (fun _ kv _ => l.length - (intOf kv).toNat)
          case atStart => exact ⟨0, rfl, Nat.zero_le _, by rw [fkU_zero], Ext.refl _⟩
          case round =>
            obtain ⟨k, rfl, hk, rfl, hx⟩ := hrel
            have HXX := Lib.hid (HX.out.trans hx)
            have HXR := Lib.hid hx
            by_cases hlt : k < l.length
            · obtain ⟨x, hxk⟩ : ∃ x, l[k]? = some x := ⟨_, List.getElem?_eq_getElem hlt⟩
              obtain ⟨b, off, hA, hbl, hra⟩ := ed_row (HS.out.ext HXX.out) hxk
              have HSA := Lib.hid hA
              subst hA
              have hc2 := hra 2 _ (show x.cells[2]? = some (.int .i64 x.st.site) from rfl)
              have hc3 := hra 3 _ (show x.cells[3]? = some (.int .i64 x.st.seq) from rfl)
              have HRA := Lib.hid hra
              have HXK := Lib.hid hxk
              have hk1 : ¬ ((l.length : Int) ≤ (k : Int)) := by omega
              clear hx hxk hra
              by_cases h1 : x.st.site = s
              · by_cases h2 : x.st.seq = q
                · have hnm : nmE x = ⟨s, q⟩ := by unfold nmE; rw [h1, h2]
                  have HH := Lib.hid (fkU_hit HXK.out hnm)
                  have HNM := Lib.hid hnm
                  clear hnm
                  have HFU := Lib.hid (fun (h : fkU l ⟨s, q⟩ k = true) => fkU_up h)
                  generalize fkU l ⟨s, q⟩ k = fb at HFU
                  cases fb
                  · go_wp2_with (first
                      | (with_reducible refine wpList_load_midg rfl (d := 41) (by kernel_rfl) (by kernel_rfl) 32 (.tmp 45) rfl b (off + k * 17) rfl x.cells _ HRA.out Tryd.underlying32 rfl (by kernel_rfl) ?_)
                      | (go_at_call 25; refine (refName_any x _).mono ?_; rintro e W8 ⟨rfl, x8⟩)
                      | (go_at_call 34; refine (HFK.out (nmE x) _ (HXX.out.trans x8)).mono ?_; rintro e W9 ⟨bf, rfl, hbf, x9⟩; have hbt : bf = forkB l ⟨s, q⟩ := (by rw [Bool.eq_iff_iff, hbf, HNM.out]; exact (HKB.out _).symm); clear hbf))
                    go_roundw
                    case rel => exact ⟨k + 1, by go_num, by omega, by rw [HH.out], HXR.out.trans (x8.trans x9)⟩
                    case measure => simp [intOf]; omega
                  · have HHT := Lib.hid (HFU.out rfl)
                    go_wp2_with fail
                    go_roundw
                    case rel => exact ⟨k + 1, by go_num, by omega, by rw [HH.out, HHT.out], HXR.out⟩
                    case measure => simp [intOf]; omega
                · have h2e : (x.st.seq == q) = false := by simpa using h2
                  have HH := Lib.hid (fkU_skip (n := ⟨s, q⟩) HXK.out (fun e => h2 (by rw [show x.st.seq = (nmE x).seq from rfl, e])))
                  generalize fkU l ⟨s, q⟩ k = fb at HH
                  go_wp2_with fail
                  go_roundw
                  case rel => exact ⟨k + 1, by go_num, by omega, by rw [HH.out], HXR.out⟩
                  case measure => simp [intOf]; omega
              · have h1e : (x.st.site == s) = false := by simpa using h1
                have HH := Lib.hid (fkU_skip (n := ⟨s, q⟩) HXK.out (fun e => h1 (by rw [show x.st.site = (nmE x).site from rfl, e])))
                generalize fkU l ⟨s, q⟩ k = fb at HH
                go_wp2_with fail
                go_roundw
                case rel => exact ⟨k + 1, by go_num, by omega, by rw [HH.out], HXR.out⟩
                case measure => simp [intOf]; omega
            · obtain rfl : k = l.length := by omega
              rw [fkU_all]
              have HO4 := Lib.hid (own_ext HO.out HXR.out)
              clear hx
              cases hfb : forkB l ⟨s, q⟩
              · have HN := Lib.hid (HP.out.no ((forkB_no l _).1 hfb))
                clear hfb
                go_wp2_with fail
                go_roundw
                case rel => exact ⟨q + 1, o2, by go_num, by omega, HN.out, HO4.out, HXX.out⟩
                case measure => simp [intOf]; omega
              · have HN := Lib.hid (HP.out.yes ((forkB_iff l _).1 hfb))
                clear hfb
                have hx6 : Ext wr (wr.alloc (.cells (([.int .i64 s, .int .i64 q] : List Value).toArray) 24)) := (Ext.refl _).alloc _
                have HSN := Lib.hid (show Sv (wr.alloc (.cells (([.int .i64 s, .int .i64 q] : List Value).toArray) 24)) (wr.alloc (.cells (([.int .i64 s, .int .i64 q] : List Value).toArray) 24)).heap.size 2 (some ⟨wr.heap.size, 0, none⟩) 1 (rowsN [⟨s, q⟩]) from
                  ⟨by simp [rowsN], by decide, rowsN_rwk _, fun _ => ⟨wr.heap.size, 0, rfl, by simp, fun j u hu => by
                    rw [Nat.zero_add, cell_of_row _ _ _ _ _ _ (heap_alloc_new wr _)]
                    simpa [rowsN, Nm.cells] using hu⟩⟩)
                have HO3 := Lib.hid (own_ext HO4.out hx6)
                have HX3 := Lib.hid (HXX.out.trans hx6)
                clear hx6
                go_wp2_with (first
                  | (refine wpList_buildRow rfl 41 24 54 rfl 2 (by decide) (by decide) [.int .i64 s, .int .i64 q] rfl rfl Tryd.underlying41 (by kernel_rfl) (by kernel_rfl) ?_)
                  | (at_builtin; refine wpList_append_sv _ rfl (.tmp 51) (.tmp 55) 41 rfl w.heap.size 24 i0 (.agg #[.int .i64 0, .int .i64 0]) 2 16 Tryd.underlying41 HI.out HZ.out HZ1.out HZ2.out rfl (by decide) _ o2.length _ rfl HO3.out _ _ 1 1 (rowsN [⟨s, q⟩]) rfl HSN.out rfl (by unfold maxLen; omega) (by omega) HX3.out.size ?_; intro v6 W6 g1 g2 _))
                have HO6 := Lib.hid (show W6.ownsRow w.heap.size 24 2 v6 (o2 ++ [(⟨s, q⟩ : Nm)]).length (rowsN (o2 ++ [(⟨s, q⟩ : Nm)])).flatten by rw [rowsN_append, List.flatten_append, List.length_append]; exact g1)
                have HX6 := Lib.hid (HX3.out.own HO3.out g2 (Nat.le_refl _))
                clear g1 g2
                go_roundw
                case rel => exact ⟨q + 1, o2 ++ [⟨s, q⟩], by go_num, by omega, HN.out, HO6.out, HX6.out⟩
                case measure => simp [intOf]; omega
        · obtain rfl : q = 1001 := by omega
          have HN := Lib.hid HP.out.row
          go_wp2_with fail
          go_roundw
          case rel => exact ⟨s + 1, o2, by go_num, by omega, HN.out, HO.out, HX.out⟩
          case measure => simp [intOf]; omega
    · obtain rfl : s = 9 := by omega
      obtain ⟨A1, c1, rfl, _⟩ := own_form HO.out
      go_wp2_with fail
      go_ret
      exact ⟨o, HP.out.done, A1, c1, rfl, Sv.of_own HO.out (rowsN_rwk _) (rowsN_length _), HX.out⟩
end Go.Proofs.YtcfebfblmmbeaaaDoor

/- A slice literal of rows; an owned row that begins as an empty literal. -/
namespace Go.Proofs.YtcfebfblmmbeaaaDoor
open Go Go.RowKit

theorem wpList_buildRows {P : Program} {ops : Array Oper} {rest : List Oper} {o : Oper} {a : Act} {w : World} {Q : Exit → Act → World → Prop} (hg : o.guard = none) (t e : TypeId) (n : Nat) (parts : Array (Nat × Operand)) (ho : o.op = .buildSlice t n parts)
    (k : Nat) (hk : 0 < k) (xs : List (List Value)) (hx : ∀ x, x ∈ xs → x.length = k) (hl : xs.length = n) (hn : 0 < n) (hnk : n * k ≤ 2 ^ 24)
    (hs : (parts.map fun (i, x) => (i, a.eval x)).toList = ((xs.map fun x => Value.agg x.toArray).zipIdx 0).map fun x => (x.2, x.1))
    (hu : P.underlying t = some (.slice e)) (hi : (P.info? e).map (·.size) = some k) (hz : ((P.info? e).bind (·.zero)).isSome = true)
    (h : wpList P ops Q rest (a.put o.dst (.slice (some ⟨w.heap.size, 0, none⟩) n n)) (w.alloc (.cells xs.flatten.toArray e))) : wpList P ops Q (o :: rest) a w := by
  cases hie : P.info? e with
  | none => simp [hie] at hi
  | some ie =>
    have hsz : ie.size = k := by simpa [hie] using hi
    obtain ⟨z, hzz⟩ := Option.isSome_iff_exists.1 (by simpa [hie] using hz : (ie.zero).isSome = true)
    have hpos := Nat.mul_pos hn hk
    refine wpList_buildSlice hg t e n parts ho _ ie z hu hie hzz (by rw [hsz]; omega) (by rw [hsz]; omega) ?_ h
    rw [hs, hsz]
    have hf := Great.fill_whole (s := k) hk (xs.map fun x => Value.agg x.toArray) ((Array.range (n * k)).map (z.cells[· % z.cells.size]!)) (fun v hv => by
      obtain ⟨x, hm, rfl⟩ := List.mem_map.1 hv
      simpa [Value.cells] using hx x hm) (by simp [hl])
    rw [hf]
    congr 1
    rw [List.flatMap_def, List.map_map]
    congr 2
    simp [Function.comp_def, Value.cells]
/-- What such a literal holds. -/
theorem Sv.lit (w : World) (e : TypeId) (k : Nat) (xs : List (List Value)) (hr : Rwk k xs) (hm : xs.length ≤ maxLen) : Sv (w.alloc (.cells xs.flatten.toArray e)) (w.alloc (.cells xs.flatten.toArray e)).heap.size k (some ⟨w.heap.size, 0, none⟩) xs.length xs :=
  ⟨Nat.le_refl _, hm, hr, fun _ => ⟨w.heap.size, 0, rfl, by simp, fun j u hu => by
    rw [Nat.zero_add, cell_of_row _ _ _ _ _ _ (heap_alloc_new w _)]
    simpa using hu⟩⟩
theorem own_zero (w : World) (e : TypeId) (k : Nat) : (w.alloc (.cells #[] e)).ownsRow w.heap.size e k (.slice (some ⟨w.heap.size, 0, none⟩) 0 0) 0 [] :=
  own_of_cur (cur := []) (Nat.le_refl _) (by simpa using heap_alloc_new w (.cells #[] e)) (Nat.le_refl _) (by decide) (by simp) (by simp)
end Go.Proofs.YtcfebfblmmbeaaaDoor

/- Contracts of the laws' own helpers: box, undo, name, has. -/
namespace Go.Proofs.YtcfebfblmmbeaaaDoor
open Go Go.RowKit

def zeroEd : Ed := ⟨⟨0, 0, 0, 0⟩, 0, zeroBx, zeroPt, 0, 0, 0⟩
def boxE (site seq cell : Int) : Ed := ⟨⟨0, 1 + seq, site, seq⟩, 1, ⟨⟨0, 0, 0⟩, ⟨1, 1, 1⟩⟩, zeroPt, 0, cell, 0⟩
def undoE (site seq of : Int) : Ed := ⟨⟨0, 1 + seq, site, seq⟩, 6, zeroBx, zeroPt, 0, 0, of⟩
set_option maxRecDepth 100000 in
set_option maxHeartbeats 2000000 in
theorem lawbox_any (site seq cell : Int) (hq : 0 ≤ seq ∧ seq ≤ 1000) (w : World) :
    Calls Tryd.prog 29 #[.int .i64 site, .int .i64 seq, .int .i64 cell] w fun e w' => e = .returned (.agg (boxE site seq cell).cells.toArray) ∧ Ext w w' := by
  have HB0 := Lib.hid (Arr.new w 32 [.int .i64 zeroEd.st.tick, .int .i64 zeroEd.st.clock, .int .i64 zeroEd.st.site, .int .i64 zeroEd.st.seq, .int .i64 zeroEd.kind, .int .i64 zeroEd.box.lo.x, .int .i64 zeroEd.box.lo.y, .int .i64 zeroEd.box.lo.z, .int .i64 zeroEd.box.hi.x, .int .i64 zeroEd.box.hi.y, .int .i64 zeroEd.box.hi.z, .int .i64 zeroEd.at_.x, .int .i64 zeroEd.at_.y, .int .i64 zeroEd.at_.z, .int .i64 zeroEd.turn, .int .i64 zeroEd.cell, .int .i64 zeroEd.size])
  have hw : IntKind.i64.wrap (1 + seq) = 1 + seq := by rw [IntKind.wrap_i64]; omega
  go_enter Tryd.func29, Tryd.ntmps29
  go_wp2_with (first | (refine wpList_store_blk 32 (.tmp 6) (.tmp 15) rfl rfl HB0.out [.int .i64 (boxE site seq cell).st.tick, .int .i64 (boxE site seq cell).st.clock, .int .i64 (boxE site seq cell).st.site, .int .i64 (boxE site seq cell).st.seq, .int .i64 (boxE site seq cell).kind, .int .i64 (boxE site seq cell).box.lo.x, .int .i64 (boxE site seq cell).box.lo.y, .int .i64 (boxE site seq cell).box.lo.z, .int .i64 (boxE site seq cell).box.hi.x, .int .i64 (boxE site seq cell).box.hi.y, .int .i64 (boxE site seq cell).box.hi.z, .int .i64 (boxE site seq cell).at_.x, .int .i64 (boxE site seq cell).at_.y, .int .i64 (boxE site seq cell).at_.z, .int .i64 (boxE site seq cell).turn, .int .i64 (boxE site seq cell).cell, .int .i64 (boxE site seq cell).size] rfl rfl (by kernel_rfl) rfl rfl ?_))
  have B2 := HB0.out.setRow [.int .i64 (boxE site seq cell).st.tick, .int .i64 (boxE site seq cell).st.clock, .int .i64 (boxE site seq cell).st.site, .int .i64 (boxE site seq cell).st.seq, .int .i64 (boxE site seq cell).kind, .int .i64 (boxE site seq cell).box.lo.x, .int .i64 (boxE site seq cell).box.lo.y, .int .i64 (boxE site seq cell).box.lo.z, .int .i64 (boxE site seq cell).box.hi.x, .int .i64 (boxE site seq cell).box.hi.y, .int .i64 (boxE site seq cell).box.hi.z, .int .i64 (boxE site seq cell).at_.x, .int .i64 (boxE site seq cell).at_.y, .int .i64 (boxE site seq cell).at_.z, .int .i64 (boxE site seq cell).turn, .int .i64 (boxE site seq cell).cell, .int .i64 (boxE site seq cell).size]
  (try simp only [Exit.inBlock, Exit.then])
  refine bodyPost_ret (v := .agg #[.int .i64 (boxE site seq cell).st.tick, .int .i64 (boxE site seq cell).st.clock, .int .i64 (boxE site seq cell).st.site, .int .i64 (boxE site seq cell).st.seq, .int .i64 (boxE site seq cell).kind, .int .i64 (boxE site seq cell).box.lo.x, .int .i64 (boxE site seq cell).box.lo.y, .int .i64 (boxE site seq cell).box.lo.z, .int .i64 (boxE site seq cell).box.hi.x, .int .i64 (boxE site seq cell).box.hi.y, .int .i64 (boxE site seq cell).box.hi.z, .int .i64 (boxE site seq cell).at_.x, .int .i64 (boxE site seq cell).at_.y, .int .i64 (boxE site seq cell).at_.z, .int .i64 (boxE site seq cell).turn, .int .i64 (boxE site seq cell).cell, .int .i64 (boxE site seq cell).size]) ?_ rfl ⟨rfl, (by repeat (first | with_reducible exact Ext.refl _ | with_reducible assumption | with_reducible refine Ext.alloc ?_ _ | with_reducible refine Ext.drew ?_ | (with_reducible refine Ext.setCell ?_ ?_ _; rotate_left; focus (first | (simp; done) | (simp; omega) | omega)) | (with_reducible refine Ext.setRow ?_ ?_ _; rotate_left; focus (first | (simp; done) | (simp; omega) | omega)) | with_reducible refine Ext.trans ?_ (by with_reducible assumption)))⟩
  exact results_cell_row Tryd.results29 _ _ _ _ _ _ _ rfl B2 Tryd.underlying32 rfl (by kernel_rfl)
set_option maxRecDepth 100000 in
set_option maxHeartbeats 2000000 in
theorem lawundo_any (site seq of : Int) (hq : 0 ≤ seq ∧ seq ≤ 1000) (w : World) :
    Calls Tryd.prog 28 #[.int .i64 site, .int .i64 seq, .int .i64 of] w fun e w' => e = .returned (.agg (undoE site seq of).cells.toArray) ∧ Ext w w' := by
  have HB0 := Lib.hid (Arr.new w 32 [.int .i64 zeroEd.st.tick, .int .i64 zeroEd.st.clock, .int .i64 zeroEd.st.site, .int .i64 zeroEd.st.seq, .int .i64 zeroEd.kind, .int .i64 zeroEd.box.lo.x, .int .i64 zeroEd.box.lo.y, .int .i64 zeroEd.box.lo.z, .int .i64 zeroEd.box.hi.x, .int .i64 zeroEd.box.hi.y, .int .i64 zeroEd.box.hi.z, .int .i64 zeroEd.at_.x, .int .i64 zeroEd.at_.y, .int .i64 zeroEd.at_.z, .int .i64 zeroEd.turn, .int .i64 zeroEd.cell, .int .i64 zeroEd.size])
  have hw : IntKind.i64.wrap (1 + seq) = 1 + seq := by rw [IntKind.wrap_i64]; omega
  go_enter Tryd.func28, Tryd.ntmps28
  go_wp2_with (first | (refine wpList_store_blk 32 (.tmp 6) (.tmp 13) rfl rfl HB0.out [.int .i64 (undoE site seq of).st.tick, .int .i64 (undoE site seq of).st.clock, .int .i64 (undoE site seq of).st.site, .int .i64 (undoE site seq of).st.seq, .int .i64 (undoE site seq of).kind, .int .i64 (undoE site seq of).box.lo.x, .int .i64 (undoE site seq of).box.lo.y, .int .i64 (undoE site seq of).box.lo.z, .int .i64 (undoE site seq of).box.hi.x, .int .i64 (undoE site seq of).box.hi.y, .int .i64 (undoE site seq of).box.hi.z, .int .i64 (undoE site seq of).at_.x, .int .i64 (undoE site seq of).at_.y, .int .i64 (undoE site seq of).at_.z, .int .i64 (undoE site seq of).turn, .int .i64 (undoE site seq of).cell, .int .i64 (undoE site seq of).size] rfl rfl (by kernel_rfl) rfl rfl ?_))
  have B2 := HB0.out.setRow [.int .i64 (undoE site seq of).st.tick, .int .i64 (undoE site seq of).st.clock, .int .i64 (undoE site seq of).st.site, .int .i64 (undoE site seq of).st.seq, .int .i64 (undoE site seq of).kind, .int .i64 (undoE site seq of).box.lo.x, .int .i64 (undoE site seq of).box.lo.y, .int .i64 (undoE site seq of).box.lo.z, .int .i64 (undoE site seq of).box.hi.x, .int .i64 (undoE site seq of).box.hi.y, .int .i64 (undoE site seq of).box.hi.z, .int .i64 (undoE site seq of).at_.x, .int .i64 (undoE site seq of).at_.y, .int .i64 (undoE site seq of).at_.z, .int .i64 (undoE site seq of).turn, .int .i64 (undoE site seq of).cell, .int .i64 (undoE site seq of).size]
  (try simp only [Exit.inBlock, Exit.then])
  refine bodyPost_ret (v := .agg #[.int .i64 (undoE site seq of).st.tick, .int .i64 (undoE site seq of).st.clock, .int .i64 (undoE site seq of).st.site, .int .i64 (undoE site seq of).st.seq, .int .i64 (undoE site seq of).kind, .int .i64 (undoE site seq of).box.lo.x, .int .i64 (undoE site seq of).box.lo.y, .int .i64 (undoE site seq of).box.lo.z, .int .i64 (undoE site seq of).box.hi.x, .int .i64 (undoE site seq of).box.hi.y, .int .i64 (undoE site seq of).box.hi.z, .int .i64 (undoE site seq of).at_.x, .int .i64 (undoE site seq of).at_.y, .int .i64 (undoE site seq of).at_.z, .int .i64 (undoE site seq of).turn, .int .i64 (undoE site seq of).cell, .int .i64 (undoE site seq of).size]) ?_ rfl ⟨rfl, (by repeat (first | with_reducible exact Ext.refl _ | with_reducible assumption | with_reducible refine Ext.alloc ?_ _ | with_reducible refine Ext.drew ?_ | (with_reducible refine Ext.setCell ?_ ?_ _; rotate_left; focus (first | (simp; done) | (simp; omega) | omega)) | (with_reducible refine Ext.setRow ?_ ?_ _; rotate_left; focus (first | (simp; done) | (simp; omega) | omega)) | with_reducible refine Ext.trans ?_ (by with_reducible assumption)))⟩
  exact results_cell_row Tryd.results28 _ _ _ _ _ _ _ rfl B2 Tryd.underlying32 rfl (by kernel_rfl)
set_option maxRecDepth 100000 in
set_option maxHeartbeats 2000000 in
theorem lawname_any (site seq : Int) (w : World) :
    Calls Tryd.prog 30 #[.int .i64 site, .int .i64 seq] w fun e w' => e = .returned (nmV ⟨site, seq⟩) ∧ Ext w w' := by
  have HB0 := Lib.hid (Arr.new w 24 [.int .i64 0, .int .i64 0])
  go_enter Tryd.func30, Tryd.ntmps30
  go_wp2_with (refine wpList_store_blk 24 (.tmp 4) (.tmp 7) rfl rfl HB0.out [.int .i64 site, .int .i64 seq] rfl rfl (by kernel_rfl) rfl rfl ?_)
  have B2 := HB0.out.setRow [.int .i64 site, .int .i64 seq]
  (try simp only [Exit.inBlock, Exit.then])
  refine bodyPost_ret (v := nmV ⟨site, seq⟩) ?_ rfl ⟨rfl, (by repeat (first | with_reducible exact Ext.refl _ | with_reducible assumption | with_reducible refine Ext.alloc ?_ _ | with_reducible refine Ext.drew ?_ | (with_reducible refine Ext.setCell ?_ ?_ _; rotate_left; focus (first | (simp; done) | (simp; omega) | omega)) | (with_reducible refine Ext.setRow ?_ ?_ _; rotate_left; focus (first | (simp; done) | (simp; omega) | omega)) | with_reducible refine Ext.trans ?_ (by with_reducible assumption)))⟩
  exact results_cell_row Tryd.results30 _ _ _ _ _ _ _ rfl B2 Tryd.underlying24 rfl (by kernel_rfl)
theorem has_no {α : Type} [DecidableEq α] {l : List α} {x : α} (h : ∀ (i : Nat) (y : α), i < l.length → l[i]? = some y → y ≠ x) : decide (x ∈ l) = false := by
  rw [decide_eq_false_iff_not]
  intro hm
  obtain ⟨i, hi⟩ := List.getElem?_of_mem hm
  exact h i x (List.getElem?_eq_some_iff.1 hi).1 hi rfl
set_option maxRecDepth 100000 in
set_option maxHeartbeats 4000000 in
theorem has_any (A : Option Addr) (c : Nat) (l : List Ed) (x : Ed) (w : World) (hs : Sv w w.heap.size 17 A c (rowsE l)) (hb : l.length ≤ 1000000) :
    Calls Tryd.prog 26 #[.slice A l.length c, .agg x.cells.toArray] w fun e w' => e = .returned (.bool (decide (x ∈ l))) ∧ Ext w w' := by
  have hm := mixed
  have HB := Lib.hid (Arr.new w 32 x.cells)
  have HX0 := Lib.hid (show Ext w (w.alloc (.cells x.cells.toArray 32)) from (Ext.refl w).alloc _)
  have HS := Lib.hid (hs.ext HX0.out)
  clear hs
  go_enter Tryd.func26, Tryd.ntmps26
  go_upto_region 1 with fail
  obtain ⟨W0, hW⟩ : ∃ W, W = w.alloc (.cells x.cells.toArray 32) := ⟨_, rfl⟩
  rw [← hW] at HB HX0 HS
  rw [← hW]
  clear hW
  go_wp2_with fail
  go_loopw [5] (fun i wr => ∃ k : Nat, i = .int .i64 k ∧ k ≤ l.length ∧ (∀ (i : Nat) (y : Ed), i < k → l[i]? = some y → y ≠ x) ∧ Ext W0 wr) (fun i _ => l.length - (intOf i).toNat)
  case atStart => exact ⟨0, rfl, Nat.zero_le _, fun i y hi => by omega, Ext.refl _⟩
  case round =>
    obtain ⟨k, rfl, hk, hno, hx⟩ := hrel
    have HNO := Lib.hid hno
    have HX := Lib.hid hx
    clear hno
    by_cases hlt : k < l.length
    · obtain ⟨y, hyk⟩ : ∃ y, l[k]? = some y := ⟨_, List.getElem?_eq_getElem hlt⟩
      obtain ⟨bq, oq, rfl, hbl, hra⟩ := ed_row (HS.out.ext hx) hyk
      have HYK := Lib.hid hyk
      have HRX := Lib.hid (fun w2 (h : Ext wr w2) => rangeAt_ext hra hbl h)
      have hk0 : 0 ≤ (k : Int) := by omega
      have hk1 : ¬ ((l.length : Int) ≤ (k : Int)) := by omega
      have hn := eqEd_run y x
      clear hyk hra hbl hx
      by_cases hyx : y = x
      · rw [decide_eq_true hyx] at hn
        have HYX := Lib.hid hyx
        clear hyx
        go_upto_region 4 with fail
        refine wp_region_rel (fun i v w' => match i with
            | 0 => v = .slice (some ⟨bq, oq, none⟩) l.length c
            | 1 => v = .int .i64 (k : Int)
            | 2 => v = .pointer (some ⟨bq, oq + k * 17, none⟩)
            | 3 => v = .agg y.cells.toArray
            | 4 => v = .agg x.cells.toArray
            | 5 => v = .bool true
            | _ => True) hm (by kernel_rfl) (by kernel_rfl) rfl ?_ ?_ ?_
        · intro i v w1 w2 hx h
          match i, h with
          | 0, h => exact h
          | 1, h => exact h
          | 2, h => exact h
          | 3, h => exact h
          | 4, h => exact h
          | 5, h => exact h
          | i + 6, h => exact h
        · intro i o ho b w1 hx hmiss hdep K hK
          match i, ho with
          | 0, ho =>
            obtain rfl := Option.some.inj ho
            have e0 : b.tmps[0]? = some (.slice (some ⟨bq, oq, none⟩) l.length c) := hmiss 0 rfl
            refine want_none rfl ?_
            exact op_move rfl (eval_of e0) (hK _ w1 (Ext.refl _) rfl)
          | 1, ho =>
            obtain rfl := Option.some.inj ho
            have e5 : b.tmps[5]? = some (.int .i64 (k : Int)) := hmiss 5 rfl
            refine want_none rfl ?_
            exact op_move rfl (eval_of e5) (hK _ w1 (Ext.refl _) rfl)
          | 2, ho =>
            obtain rfl := Option.some.inj ho
            obtain ⟨v12, g12, e12⟩ := hdep 0 rfl
            have g12 : v12 = .slice (some ⟨bq, oq, none⟩) l.length c := g12
            subst g12
            have e12 := e12 12 rfl
            obtain ⟨v13, g13, e13⟩ := hdep 1 rfl
            have g13 : v13 = .int .i64 (k : Int) := g13
            subst g13
            have e13 := e13 13 rfl
            refine want_none rfl ?_
            exact op_run (by unfold execOp; simp [e12, e13, Act.eval, go_sem, hlt, hk0]) (hK _ w1 (Ext.refl _) rfl)
          | 3, ho =>
            obtain rfl := Option.some.inj ho
            obtain ⟨v14, g14, e14⟩ := hdep 2 rfl
            have g14 : v14 = .pointer (some ⟨bq, oq + k * 17, none⟩) := g14
            subst g14
            have e14 := e14 14 rfl
            refine want_none rfl ?_
            exact wp_load_mid 32 (.tmp 14) rfl (bq) (oq + k * 17) (eval_of e14) (y.cells) _ (HRX.out _ hx) Tryd.underlying32 rfl (by kernel_rfl) (hK _ w1 (Ext.refl _) rfl)
          | 4, ho =>
            obtain rfl := Option.some.inj ho
            have e3 : b.tmps[3]? = some (.pointer (some ⟨w.heap.size, 0, none⟩)) := hmiss 3 rfl
            refine want_none rfl ?_
            exact op_loadrow rfl (eval_of e3) (HB.out.ext (HX.out.trans hx)) _ Tryd.underlying32 rfl (by kernel_rfl) (hK _ w1 (Ext.refl _) rfl)
          | 5, ho =>
            obtain rfl := Option.some.inj ho
            obtain ⟨v15, g15, e15⟩ := hdep 3 rfl
            have g15 : v15 = .agg y.cells.toArray := g15
            subst g15
            have e15 := e15 15 rfl
            obtain ⟨v16, g16, e16⟩ := hdep 4 rfl
            have g16 : v16 = .agg x.cells.toArray := g16
            subst g16
            have e16 := e16 16 rfl
            refine want_none rfl ?_
            exact op_run (by unfold execOp; simp [e15, e16, Act.eval, go_sem, hn]) (hK _ w1 (Ext.refl _) rfl)
          | i + 6, ho => cases ho
        · intro V w9 hx hg
          have g0 : V 0 = .slice (some ⟨bq, oq, none⟩) l.length c := hg 0 (by decide)
          have g1 : V 1 = .int .i64 (k : Int) := hg 1 (by decide)
          have g2 : V 2 = .pointer (some ⟨bq, oq + k * 17, none⟩) := hg 2 (by decide)
          have g3 : V 3 = .agg y.cells.toArray := hg 3 (by decide)
          have g4 : V 4 = .agg x.cells.toArray := hg 4 (by decide)
          have g5 : V 5 = .bool true := hg 5 (by decide)
          simp only [List.length_cons, List.length_nil, fillAllN, dstOf, Act.put, List.getElem?_toArray, List.getElem?_cons_zero, List.getElem?_cons_succ, Option.bind_some, g0, g1, g2, g3, g4, g5, List.setIfInBounds_toArray, List.set_cons_zero, List.set_cons_succ]
          clear g0 g1 g2 g3 g4 g5 hg
          have HX9 := Lib.hid (HX.out.trans hx)
          clear hx hn
          go_wp2_with fail
          go_ret
          exact ⟨ret_bool (decide_eq_true (HYX.out ▸ List.mem_of_getElem? HYK.out)).symm, HX0.out.trans HX9.out⟩
      · rw [decide_eq_false hyx] at hn
        have HYX := Lib.hid hyx
        clear hyx
        go_upto_region 4 with fail
        refine wp_region_rel (fun i v w' => match i with
            | 0 => v = .slice (some ⟨bq, oq, none⟩) l.length c
            | 1 => v = .int .i64 (k : Int)
            | 2 => v = .pointer (some ⟨bq, oq + k * 17, none⟩)
            | 3 => v = .agg y.cells.toArray
            | 4 => v = .agg x.cells.toArray
            | 5 => v = .bool false
            | _ => True) hm (by kernel_rfl) (by kernel_rfl) rfl ?_ ?_ ?_
        · intro i v w1 w2 hx h
          match i, h with
          | 0, h => exact h
          | 1, h => exact h
          | 2, h => exact h
          | 3, h => exact h
          | 4, h => exact h
          | 5, h => exact h
          | i + 6, h => exact h
        · intro i o ho b w1 hx hmiss hdep K hK
          match i, ho with
          | 0, ho =>
            obtain rfl := Option.some.inj ho
            have e0 : b.tmps[0]? = some (.slice (some ⟨bq, oq, none⟩) l.length c) := hmiss 0 rfl
            refine want_none rfl ?_
            exact op_move rfl (eval_of e0) (hK _ w1 (Ext.refl _) rfl)
          | 1, ho =>
            obtain rfl := Option.some.inj ho
            have e5 : b.tmps[5]? = some (.int .i64 (k : Int)) := hmiss 5 rfl
            refine want_none rfl ?_
            exact op_move rfl (eval_of e5) (hK _ w1 (Ext.refl _) rfl)
          | 2, ho =>
            obtain rfl := Option.some.inj ho
            obtain ⟨v12, g12, e12⟩ := hdep 0 rfl
            have g12 : v12 = .slice (some ⟨bq, oq, none⟩) l.length c := g12
            subst g12
            have e12 := e12 12 rfl
            obtain ⟨v13, g13, e13⟩ := hdep 1 rfl
            have g13 : v13 = .int .i64 (k : Int) := g13
            subst g13
            have e13 := e13 13 rfl
            refine want_none rfl ?_
            exact op_run (by unfold execOp; simp [e12, e13, Act.eval, go_sem, hlt, hk0]) (hK _ w1 (Ext.refl _) rfl)
          | 3, ho =>
            obtain rfl := Option.some.inj ho
            obtain ⟨v14, g14, e14⟩ := hdep 2 rfl
            have g14 : v14 = .pointer (some ⟨bq, oq + k * 17, none⟩) := g14
            subst g14
            have e14 := e14 14 rfl
            refine want_none rfl ?_
            exact wp_load_mid 32 (.tmp 14) rfl (bq) (oq + k * 17) (eval_of e14) (y.cells) _ (HRX.out _ hx) Tryd.underlying32 rfl (by kernel_rfl) (hK _ w1 (Ext.refl _) rfl)
          | 4, ho =>
            obtain rfl := Option.some.inj ho
            have e3 : b.tmps[3]? = some (.pointer (some ⟨w.heap.size, 0, none⟩)) := hmiss 3 rfl
            refine want_none rfl ?_
            exact op_loadrow rfl (eval_of e3) (HB.out.ext (HX.out.trans hx)) _ Tryd.underlying32 rfl (by kernel_rfl) (hK _ w1 (Ext.refl _) rfl)
          | 5, ho =>
            obtain rfl := Option.some.inj ho
            obtain ⟨v15, g15, e15⟩ := hdep 3 rfl
            have g15 : v15 = .agg y.cells.toArray := g15
            subst g15
            have e15 := e15 15 rfl
            obtain ⟨v16, g16, e16⟩ := hdep 4 rfl
            have g16 : v16 = .agg x.cells.toArray := g16
            subst g16
            have e16 := e16 16 rfl
            refine want_none rfl ?_
            exact op_run (by unfold execOp; simp [e15, e16, Act.eval, go_sem, hn]) (hK _ w1 (Ext.refl _) rfl)
          | i + 6, ho => cases ho
        · intro V w9 hx hg
          have g0 : V 0 = .slice (some ⟨bq, oq, none⟩) l.length c := hg 0 (by decide)
          have g1 : V 1 = .int .i64 (k : Int) := hg 1 (by decide)
          have g2 : V 2 = .pointer (some ⟨bq, oq + k * 17, none⟩) := hg 2 (by decide)
          have g3 : V 3 = .agg y.cells.toArray := hg 3 (by decide)
          have g4 : V 4 = .agg x.cells.toArray := hg 4 (by decide)
          have g5 : V 5 = .bool false := hg 5 (by decide)
          simp only [List.length_cons, List.length_nil, fillAllN, dstOf, Act.put, List.getElem?_toArray, List.getElem?_cons_zero, List.getElem?_cons_succ, Option.bind_some, g0, g1, g2, g3, g4, g5, List.setIfInBounds_toArray, List.set_cons_zero, List.set_cons_succ]
          clear g0 g1 g2 g3 g4 g5 hg
          have HX9 := Lib.hid (HX.out.trans hx)
          clear hx hn
          go_wp2_with fail
          go_roundw
          case rel =>
            refine ⟨k + 1, by go_num, by omega, fun i z hi hz => ?_, HX9.out⟩
            rcases Nat.lt_succ_iff_lt_or_eq.1 hi with h1 | rfl
            · exact HNO.out i z h1 hz
            · rw [HYK.out] at hz; injection hz with hz; subst hz; exact HYX.out
          case measure => simp [intOf]; omega
    · obtain rfl : k = l.length := by omega
      have HF := Lib.hid (has_no HNO.out)
      go_wp2_with fail
      go_ret
      exact ⟨ret_bool HF.out.symm, HX0.out.trans hx⟩
end Go.Proofs.YtcfebfblmmbeaaaDoor

/- History: calls whose answers are known, by checking. -/
namespace Go.Proofs.YtcfebfblmmbeaaaDoor
open Go Go.RowKit

theorem status_known (A : Option Addr) (c n : Nat) (l m : List Ed) (q : Nm) (k : Int) (u : Nm) (w : World) (hs : Sv w w.heap.size 17 A c (rowsE l)) (hn : l.length = n) (hb : l.length ≤ 1034834473200) (hR : RowsIn w) (h : statOk l m q k u = true) :
    Calls Tryd.prog 9 #[.slice A n c, nmV q] w fun e w' => e = .returned (.tuple #[.int .i64 k, nmV u]) ∧ Ext w w' := by
  subst hn
  refine (Status_any A c l q w hs hb hR).mono ?_
  rintro e w' ⟨k', u', h1, rfl, h3⟩
  obtain ⟨rfl, rfl⟩ := h1.uniq (statOk_spec h)
  exact ⟨rfl, h3⟩
theorem active_known (A : Option Addr) (c n : Nat) (l m a : List Ed) (w : World) (hs : Sv w w.heap.size 17 A c (rowsE l)) (hn : l.length = n) (hb : l.length ≤ 1034834473200) (hR : RowsIn w) (h : actOk l m a = true) :
    Calls Tryd.prog 21 #[.slice A n c] w (RetE a w) := by
  subst hn
  refine (Active_any A c l w hs hb hR).mono ?_
  rintro e w' ⟨m', h1, h2⟩
  obtain rfl := h1.uniq (actOk_spec h)
  exact h2
theorem set_known (A : Option Addr) (c n : Nat) (l m : List Ed) (w : World) (hs : Sv w w.heap.size 17 A c (rowsE l)) (hn : l.length = n) (hb : l.length ≤ 1034834473200) (hR : RowsIn w) (h : setOk l m = true) :
    Calls Tryd.prog 16 #[.slice A n c] w (RetE m w) := by
  subst hn
  refine (Set_any A c l w hs hb hR).mono ?_
  rintro e w' ⟨m', h1, h2⟩
  obtain rfl := h1.uniq (setOk_spec h)
  exact h2
theorem forks_known (A : Option Addr) (c n : Nat) (l : List Ed) (f : List Nm) (w : World) (hs : Sv w w.heap.size 17 A c (rowsE l)) (hn : l.length = n) (hb : l.length ≤ 1034834473200) (hR : RowsIn w) (h : forksOk l f = true) :
    Calls Tryd.prog 19 #[.slice A n c] w (RetN f w) := by
  subst hn
  refine (Forks_any A c l w hs hb hR).mono ?_
  rintro e w' ⟨m', h1, h2⟩
  obtain rfl := h1.uniq (forksOk_spec h)
  exact h2
theorem undoable_known (A : Option Addr) (c n : Nat) (l m a : List Ed) (site v : Int) (b : Bool) (w : World) (hs : Sv w w.heap.size 17 A c (rowsE l)) (hn : l.length = n) (hb : l.length ≤ 1034834473200) (hR : RowsIn w) (h : actOk l m a = true) (hv : bestE site false a = v) (hbv : decide (0 < v) = b) :
    Calls Tryd.prog 11 #[.slice A n c, .int .i64 site] w fun e w' => e = .returned (.tuple #[.int .i64 v, .bool b]) ∧ Ext w w' := by
  subst hn hv hbv
  refine (Undoable_any A c l site w hs hb hR).mono ?_
  rintro e w' ⟨m', h1, rfl, h3⟩
  obtain rfl := h1.uniq (actOk_spec h)
  exact ⟨rfl, h3⟩
theorem redoable_known (A : Option Addr) (c n : Nat) (l m a : List Ed) (site v : Int) (b : Bool) (w : World) (hs : Sv w w.heap.size 17 A c (rowsE l)) (hn : l.length = n) (hb : l.length ≤ 1034834473200) (hR : RowsIn w) (h : actOk l m a = true) (hv : bestE site true a = v) (hbv : decide (0 < v) = b) :
    Calls Tryd.prog 13 #[.slice A n c, .int .i64 site] w fun e w' => e = .returned (.tuple #[.int .i64 v, .bool b]) ∧ Ext w w' := by
  subst hn hv hbv
  refine (Redoable_any A c l site w hs hb hR).mono ?_
  rintro e w' ⟨m', h1, rfl, h3⟩
  obtain rfl := h1.uniq (actOk_spec h)
  exact ⟨rfl, h3⟩
theorem same_known (A A2 : Option Addr) (c c2 n n2 : Nat) (la lb : List Ed) (w : World) (hs : Sv w w.heap.size 17 A c (rowsE la)) (hs2 : Sv w w.heap.size 17 A2 c2 (rowsE lb)) (hn : la.length = n) (hn2 : lb.length = n2) (hla : la.length ≤ 1000000) (h : la = lb) :
    Calls Tryd.prog 15 #[.slice A n c, .slice A2 n2 c2] w fun e w' => e = .returned (.bool true) ∧ Ext w w' := by
  subst hn hn2
  refine (refSame_any A A2 c c2 la lb w hs hs2 hla).mono ?_
  rintro e w' ⟨rfl, h3⟩
  exact ⟨by rw [decide_eq_true h], h3⟩
theorem sameNm_known (A A2 : Option Addr) (c c2 n n2 : Nat) (la lb : List Nm) (w : World) (hs : Sv w w.heap.size 2 A c (rowsN la)) (hs2 : Sv w w.heap.size 2 A2 c2 (rowsN lb)) (hn : la.length = n) (hn2 : lb.length = n2) (hla : la.length ≤ 1000000) (h : la = lb) :
    Calls Tryd.prog 18 #[.slice A n c, .slice A2 n2 c2] w fun e w' => e = .returned (.bool true) ∧ Ext w w' := by
  subst hn hn2
  refine (refSameNm_any A A2 c c2 la lb w hs hs2 hla).mono ?_
  rintro e w' ⟨rfl, h3⟩
  exact ⟨by rw [decide_eq_true h], h3⟩
theorem equal_known (A A2 : Option Addr) (c c2 n n2 : Nat) (la lb : List Ed) (w : World) (hs : Sv w w.heap.size 17 A c (rowsE la)) (hs2 : Sv w w.heap.size 17 A2 c2 (rowsE lb)) (hn : la.length = n) (hn2 : lb.length = n2) (hla : la.length ≤ 1034834473200) (hlb : lb.length ≤ 1034834473200) (b : Bool) (h : decide (la = lb) = b) :
    Calls Tryd.prog 23 #[.slice A n c, .slice A2 n2 c2] w fun e w' => e = .returned (.bool b) ∧ Ext w w' := by
  subst hn hn2 h
  exact Same_any la lb A A2 c c2 w hs hs2 hla hlb
/-- A literal of edits, of names. -/
theorem svE_lit (w : World) (l : List Ed) (h : l.length ≤ 1000) : Sv (w.alloc (.cells (rowsE l).flatten.toArray 32)) (w.alloc (.cells (rowsE l).flatten.toArray 32)).heap.size 17 (some ⟨w.heap.size, 0, none⟩) l.length (rowsE l) := by
  have h1 := Sv.lit w 32 17 (rowsE l) (rowsE_rwk _) (by rw [rowsE_length]; unfold maxLen; omega)
  rwa [rowsE_length] at h1
theorem svN_lit (w : World) (l : List Nm) (h : l.length ≤ 1000) : Sv (w.alloc (.cells (rowsN l).flatten.toArray 24)) (w.alloc (.cells (rowsN l).flatten.toArray 24)).heap.size 2 (some ⟨w.heap.size, 0, none⟩) l.length (rowsN l) := by
  have h1 := Sv.lit w 24 2 (rowsN l) (rowsN_rwk _) (by rw [rowsN_length]; unfold maxLen; omega)
  rwa [rowsN_length] at h1
def sl0 : List Ed := [undoE 1 3 2, boxE 1 1 5, boxE 1 2 6, boxE 2 1 7, zeroEd]
def sm0 : List Ed := sl0 ++ [undoE 1 4 3]
def sf0 : List Ed := sl0 ++ [boxE 1 1 9]
def slS : List Ed := [boxE 1 1 5, boxE 2 1 7, boxE 1 2 6, undoE 1 3 2]
def slA : List Ed := [boxE 1 1 5, boxE 2 1 7, undoE 1 3 2]
def smS : List Ed := [boxE 1 1 5, boxE 2 1 7, boxE 1 2 6, undoE 1 3 2, undoE 1 4 3]
def smA : List Ed := [boxE 1 1 5, boxE 2 1 7, boxE 1 2 6, undoE 1 4 3]
def sfS : List Ed := [boxE 2 1 7, boxE 1 2 6, undoE 1 3 2]
theorem k_st1 : statOk sl0 slS ⟨1, 2⟩ 2 ⟨1, 3⟩ = true := by decide +kernel
theorem k_st2 : statOk sl0 slS ⟨1, 1⟩ 1 ⟨0, 0⟩ = true := by decide +kernel
theorem k_st3 : statOk sl0 slS ⟨1, 9⟩ 0 ⟨0, 0⟩ = true := by decide +kernel
theorem k_st4 : statOk sf0 sfS ⟨1, 1⟩ 3 ⟨0, 0⟩ = true := by decide +kernel
theorem k_al : actOk sl0 slS slA = true := by decide +kernel
theorem k_am : actOk sm0 smS smA = true := by decide +kernel
theorem k_ff : forksOk sf0 [⟨1, 1⟩] = true := by decide +kernel
theorem k_fl : forksOk sl0 [] = true := by decide +kernel
theorem k_sl : setOk sl0 slS = true := by decide +kernel
theorem k_sf : setOk sf0 sfS = true := by decide +kernel
theorem k_u1 : bestE 1 false slA = 1 := by decide +kernel
theorem k_r1 : bestE 1 true slA = 3 := by decide +kernel
theorem k_r2 : bestE 2 true slA = 0 := by decide +kernel
end Go.Proofs.YtcfebfblmmbeaaaDoor

/- Append of edits onto an owned row; a row of edits that begins as an empty literal. -/
namespace Go.Proofs.YtcfebfblmmbeaaaDoor
open Go Go.RowKit

set_option maxRecDepth 100000 in
theorem wpList_append_E {ops : Array Oper} {rest : List Oper} {o : Oper} {a : Act} {w : World} {Q : Exit → Act → World → Prop} (hgd : o.guard = none) (s x : Operand)
    (ho : o.op = .call { callee := .builtin .append, args := #[s, x], argTypes := #[22, 22] })
    (base : Nat) (v : Value) (xs : List Ed) (hs : a.eval s = v) (n : Nat) (hn : xs.length = n) (hown : w.ownsRow base 32 17 v n (rowsE xs).flatten)
    (A : Option Addr) (c m : Nat) (ys : List Ed) (hx : a.eval x = .slice A m c) (hm : ys.length = m) (hr : Sv w w.heap.size 17 A c (rowsE ys)) (tot : Nat) (htot : n + m = tot) (hlen : n + m ≤ 100000) (hbase : base ≤ w.heap.size)
    (h : ∀ A' c' w', w'.ownsRow base 32 17 (.slice A' tot c') tot (rowsE (xs ++ ys)).flatten → w.grownBy w' v.ownBlock → wpList Tryd.prog ops Q rest (a.put o.dst (.slice A' tot c')) w') : wpList Tryd.prog ops Q (o :: rest) a w := by
  subst hn hm htot
  obtain ⟨i0, hi, hz0, hz1, hz2⟩ := info_parts infoEd
  refine wpList_append_sv _ hgd s x 22 ho base 32 i0 _ 17 136 Tryd.underlying22 hi hz0 hz1 hz2 rfl (by decide) v xs.length _ hs hown _ A ys.length c (rowsE ys) hx hr (rowsE_length _) (by unfold maxLen; omega) (by omega) hbase ?_
  intro v' w' h1 h2 _
  have h3 : w'.ownsRow base 32 17 v' (xs ++ ys).length (rowsE (xs ++ ys)).flatten := by rw [rowsE_append, List.flatten_append, List.length_append]; exact h1
  obtain ⟨A', c', rfl, _⟩ := own_form h3
  rw [List.length_append] at h3 ⊢
  exact h A' c' w' h3 h2
/-- The empty literal, then two appends: what is where. -/
theorem own_sv_E {w : World} {base n c : Nat} {A : Option Addr} {xs : List Ed} (h : w.ownsRow base 32 17 (.slice A n c) n (rowsE xs).flatten) (hn : xs.length = n) : Sv w w.heap.size 17 A c (rowsE xs) :=
  Sv.of_own h (rowsE_rwk _) (by rw [rowsE_length, hn])
section
variable {P : Program} (w : World)
/-- An append onto an owned row: in place, or what lay there before still does. -/
theorem run_append_keep (base : Nat) (t ty e : TypeId) (i : TypeInfo) (z : Value) (size bytes : Nat) (ht : P.underlying t = some (.slice e)) (hi : P.info? e = some i) (hz : i.zero = some z)
    (hsize : i.size = size) (hby : i.bytes = bytes) (hzs : z.cells.size = size) (hsz : 0 < size)
    (v : Value) (n : Nat) (xs : List Value) (hown : w.ownsRow base e size v n xs)
    (a : Addr) (m c : Nat) (news : List Value) (hl : news.length = m * size) (hnews : ∀ j u, news[j]? = some u → w.cell? (a.add j) = some u) (h1 : ∀ u ∈ news, u.oneCell' = true)
    (h63 : n + m ≤ maxLen) (hbytes : (n + m) * bytes ≤ 140737488355328) (hbase : base ≤ w.heap.size) :
    ∃ v' w', (Builtin.append_ #[t, t] ty #[v, .slice (some a) m c]).run P w = .ok v' w' ∧ w'.ownsRow base e size v' (n + m) (xs ++ news) ∧ w.grownBy w' v.ownBlock ∧
      (v = .slice none 0 0 ∨ v'.ownBlock = v.ownBlock ∨ Ext w w') := by
  obtain ⟨v', w', hr, ho, hg, _⟩ := run_append_own (P := P) w base t ty e i z size bytes ht hi hz hsize hby hzs hsz v n xs hown a m c news hl hnews h1 h63 hbytes hbase
  refine ⟨v', w', hr, ho, hg, ?_⟩
  rcases hown.2 with ⟨rfl, rfl⟩ | ⟨g, cap, cur, rfl, hbg, hgc, hnc, hcm, hcs, htake⟩
  · exact .inl rfl
  · by_cases hroom : n + m ≤ cap
    · obtain ⟨w2, hr2, _, _⟩ := run_append_own_spare (P := P) w base t ty e i size ht hi hsize g n cap xs hown a m c news hl hnews h1 hroom
      rw [hr] at hr2
      injection hr2 with e1 e2
      subst e1
      exact .inr (.inl rfl)
    · have holds : ∀ j u, xs[j]? = some u → w.cell? ((⟨g, 0, none⟩ : Addr).add j) = some u := hown.cells (g := g) rfl
      have hr2 := run_append_grow (P := P) (w := w) t ty e i z ht hi hz ⟨g, 0, none⟩ n cap xs (by rw [hsize]; exact hown.1) holds a m c news (by rw [hsize]; exact hl) hnews (by omega) (by simp only [maxLen] at h63; omega) (growslice_fits (by omega) (by rw [hby]; exact hbytes))
      rw [hr] at hr2
      injection hr2 with e1 e2
      subst e2
      exact .inr (.inr ((Ext.refl w).drew.alloc _))
end
set_option maxRecDepth 100000 in
/-- The same at a row of edits: the slice that was appended to reads as before. -/
theorem wpList_append_keep_E {ops : Array Oper} {rest : List Oper} {o : Oper} {a : Act} {w : World} {Q : Exit → Act → World → Prop} (hgd : o.guard = none) (s x : Operand)
    (ho : o.op = .call { callee := .builtin .append, args := #[s, x], argTypes := #[22, 22] })
    (base : Nat) (A0 : Option Addr) (c0 : Nat) (xs : List Ed) (n : Nat) (hs : a.eval s = .slice A0 n c0) (hn : xs.length = n) (hown : w.ownsRow base 32 17 (.slice A0 n c0) n (rowsE xs).flatten)
    (ad : Addr) (c m : Nat) (ys : List Ed) (hx : a.eval x = .slice (some ad) m c) (hm : ys.length = m) (hr : Sv w w.heap.size 17 (some ad) c (rowsE ys)) (tot : Nat) (htot : n + m = tot) (hlen : n + m ≤ 100000) (hbase : base ≤ w.heap.size)
    (h : ∀ A' c' w', w'.ownsRow base 32 17 (.slice A' tot c') tot (rowsE (xs ++ ys)).flatten → w.grownBy w' (Value.slice A0 n c0).ownBlock → Sv w' w'.heap.size 17 A0 c0 (rowsE xs) → wpList Tryd.prog ops Q rest (a.put o.dst (.slice A' tot c')) w') : wpList Tryd.prog ops Q (o :: rest) a w := by
  subst hn hm htot
  obtain ⟨i0, hi, hz0, hz1, hz2⟩ := info_parts infoEd
  refine wpList_plain hgd fun K hK' => ?_
  obtain ⟨v', w', hrun, h1, h2, h3⟩ := run_append_keep (P := Tryd.prog) w base 22 o.type 32 i0 _ 17 136 Tryd.underlying22 hi hz0 hz1 hz2 rfl (by decide) _ xs.length _ hown ad ys.length c (rowsE ys).flatten (by rw [flatten_length _ hr.rows.len, rowsE_length]) hr.news hr.rows.one (by unfold maxLen; omega) (by omega) hbase
  have h4 : w'.ownsRow base 32 17 v' (xs ++ ys).length (rowsE (xs ++ ys)).flatten := by rw [rowsE_append, List.flatten_append, List.length_append]; exact h1
  obtain ⟨A', c', rfl, _⟩ := own_form h4
  have hs0 := own_sv_E hown rfl
  have h5 : Sv w' w'.heap.size 17 A0 c0 (rowsE xs) := by
    rcases h3 with h3 | h3 | h3
    · injection h3 with e1 e2 e3
      have : xs = [] := List.eq_nil_of_length_eq_zero e2
      subst this e1 e3
      exact Sv.nil _ _ _
    · rcases A0 with _ | a0
      · refine ⟨hs0.le, hs0.max, hs0.rows, fun hp => ?_⟩
        obtain ⟨b, off, e, _⟩ := hs0.mem hp
        cases e
      · rcases A' with _ | a1
        · simp [Value.ownBlock] at h3
        · simp only [Value.ownBlock, Option.some.injEq] at h3
          have hf1 := own_take h4 (m := xs.length) (by simp) (by simp)
          have e1 : (rowsE (xs ++ ys)).flatten.take (xs.length * 17) = (rowsE xs).flatten := by
            rw [rowsE_append, List.flatten_append, List.take_left' (by rw [flatten_length _ (rowsE_rwk xs).len, rowsE_length])]
          rw [e1] at hf1
          have hs1 := own_sv_E hf1 rfl
          have ha : a0 = a1 := by
            rcases hown.2 with ⟨e, _⟩ | ⟨g, cap, cur, e, _⟩
            · cases e
            · injection e with e _ _
              injection e with e
              subst e
              rcases h4.2 with ⟨e, _⟩ | ⟨g', cap', cur', e, _⟩
              · cases e
              · injection e with e _ _
                injection e with e
                subst e
                simp at h3
                rw [h3]
          subst ha
          exact ⟨hs0.le, hs0.max, hs1.rows, hs1.mem⟩
    · exact hs0.ext h3
  rw [List.length_append] at h4 hrun
  unfold Oper.wp
  simp [execOp, ho, resolve, invoke, builtin, hs, hx, hrun, Result.andThen]
  exact hK' _ _ (h A' c' w' h4 h2 h5)
end Go.Proofs.YtcfebfblmmbeaaaDoor
