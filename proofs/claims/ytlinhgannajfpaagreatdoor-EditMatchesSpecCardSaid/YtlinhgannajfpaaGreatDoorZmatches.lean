/- YtlinhgannajfpaaGreatDoorSm · YtlinhgannajfpaaGreatDoorRl · YtlinhgannajfpaaGreatDoorRm · YtlinhgannajfpaaGreatDoorZs · YtlinhgannajfpaaGreatDoorZd · YtlinhgannajfpaaGreatDoorZdP -/
import Derived.Deep.Cut
import Derived.Test.YtlinhgannajfpaaGreatDoorTie
import Derived.Test.YtlinhgannajfpaaGreatDoorCards
import Derived.LaidLaws
import Derived.SevenTiedAt
import Derived.Test.YtlinhgannajfpaaGreatDoorZa11
/- The reference's Same (lists of edits; layer 25). -/
namespace Go.Proofs.YtlinhgannajfpaaGreatDoor
open Go Go.RowKit

theorem same_no {α : Type} [DecidableEq α] {la lb : List α} {j : Nat} {x y : α} (hx : la[j]? = some x) (hy : lb[j]? = some y) (h : x ≠ y) : decide (la = lb) = false := by
 rw [decide_eq_false_iff_not]
 rintro rfl
 rw [hx] at hy
 injection hy with hy
 exact h hy
theorem same_yes {α : Type} [DecidableEq α] {la lb : List α} (hl : la.length = lb.length) (h : ∀ (i : Nat) (x y : α), i < la.length → la[i]? = some x → lb[i]? = some y → x = y) : decide (la = lb) = true := by
 rw [decide_eq_true_iff]
 apply List.ext_getElem hl
 intro i h1 h2
 exact h i _ _ h1 (List.getElem?_eq_getElem h1) (List.getElem?_eq_getElem h2)
set_option maxRecDepth 100000 in
set_option maxHeartbeats 4000000 in
theorem refSame25_any (A A2 : Option Addr) (c c2 : Nat) (la lb : List Ed) (w : World) (hs : Sv w w.heap.size 17 A c (rowsE la)) (hs2 : Sv w w.heap.size 17 A2 c2 (rowsE lb)) (hla : la.length ≤ 1000000) :
    Calls Tryz.prog 21 #[.slice A la.length c, .slice A2 lb.length c2] w fun e w' => e = .returned (.bool (decide (la = lb))) ∧ Ext w w' := by
 have hm := mixed
 have HS := Lib.hid hs; clear hs
 have HS2 := Lib.hid hs2; clear hs2
 by_cases hl : la.length = lb.length
 · have HL := Lib.hid hl
   have hb : ((la.length : Int) != (lb.length : Int)) = false := by simp [hl]
   clear hl
   go_enter Tryz.func21, Tryz.ntmps21
   go_wp2
   go_loopw [5] (fun i wr => ∃ j : Nat, j ≤ la.length ∧ i = .int .i64 j ∧ (∀ (i : Nat) (x y : Ed), i < j → la[i]? = some x → lb[i]? = some y → x = y) ∧ Ext w wr) (fun i _ => la.length - (intOf i).toNat)
   case atStart => exact ⟨0, Nat.zero_le _, rfl, fun i x y hi => by omega, Ext.refl _⟩
   case round =>
    obtain ⟨j, hj, rfl, hno, hx⟩ := hrel
    have HNO := Lib.hid hno; clear hno
    have HX := Lib.hid hx
    by_cases hlt : j < la.length
    · obtain ⟨x, hxj⟩ : ∃ x, la[j]? = some x := ⟨_, List.getElem?_eq_getElem hlt⟩
      have hlt2 : j < lb.length := by have := HL.out; omega
      obtain ⟨y, hyj⟩ : ∃ y, lb[j]? = some y := ⟨_, List.getElem?_eq_getElem hlt2⟩
      obtain ⟨b1, o1, rfl, hbl, hra⟩ := ed_row (HS.out.ext hx) hxj
      obtain ⟨b2, o2, rfl, hbl2, hrb⟩ := ed_row (HS2.out.ext hx) hyj
      have HRX := Lib.hid (fun w2 (h : Ext wr w2) => rangeAt_ext hra hbl h)
      have HRY := Lib.hid (fun w2 (h : Ext wr w2) => rangeAt_ext hrb hbl2 h)
      have hn := neqEd_run x y
      have HXJ := Lib.hid hxj
      have HYJ := Lib.hid hyj
      have hj0 : 0 ≤ (j : Int) := by omega
      have hj1 : ¬ ((la.length : Int) ≤ (j : Int)) := by omega
      have hj2 : ¬ ((lb.length : Int) ≤ (j : Int)) := by omega
      generalize hbe : decide (x ≠ y) = be at hn
      have HBE := Lib.hid hbe
      clear hxj hyj hbe hx hra hrb hbl hbl2
      cases be
      · go_upto_region 6 with fail
        refine wp_region_rel (fun i v w' => match i with
            | 0 => v = .slice (some ⟨b1, o1, none⟩) la.length c
            | 1 => v = .int .i64 (j : Int)
            | 2 => v = .pointer (some ⟨b1, o1 + j * 17, none⟩)
            | 3 => v = .agg x.cells.toArray
            | 4 => v = .slice (some ⟨b2, o2, none⟩) lb.length c2
            | 5 => v = .int .i64 (j : Int)
            | 6 => v = .pointer (some ⟨b2, o2 + j * 17, none⟩)
            | 7 => v = .agg y.cells.toArray
            | 8 => v = .bool false
            | _ => True) hm (by kernel_rfl) (by kernel_rfl) rfl ?_ ?_ ?_
        · intro i v w1 w2 hx h
          match i, h with
          | 0, h => exact h
          | 1, h => exact h
          | 2, h => exact h
          | 3, h => exact h
          | 4, h => exact h
          | 5, h => exact h
          | 6, h => exact h
          | 7, h => exact h
          | 8, h => exact h
          | i + 9, h => exact h
        · intro i o ho b w1 hx hmiss hdep K hK
          match i, ho with
          | 0, ho =>
            obtain rfl := Option.some.inj ho
            have e0 : b.tmps[0]? = some (.slice (some ⟨b1, o1, none⟩) la.length c) := hmiss 0 rfl
            refine want_none rfl ?_
            exact op_move rfl (eval_of e0) (hK _ w1 (Ext.refl _) rfl)
          | 1, ho =>
            obtain rfl := Option.some.inj ho
            have e5 : b.tmps[5]? = some (.int .i64 (j : Int)) := hmiss 5 rfl
            refine want_none rfl ?_
            exact op_move rfl (eval_of e5) (hK _ w1 (Ext.refl _) rfl)
          | 2, ho =>
            obtain rfl := Option.some.inj ho
            obtain ⟨v17, g17, e17⟩ := hdep 0 rfl
            have g17 : v17 = .slice (some ⟨b1, o1, none⟩) la.length c := g17
            subst g17
            have e17 := e17 17 rfl
            obtain ⟨v18, g18, e18⟩ := hdep 1 rfl
            have g18 : v18 = .int .i64 (j : Int) := g18
            subst g18
            have e18 := e18 18 rfl
            refine want_none rfl ?_
            exact op_run (by unfold execOp; simp [e17, e18, Act.eval, go_sem, hlt, hj0]) (hK _ w1 (Ext.refl _) rfl)
          | 3, ho =>
            obtain rfl := Option.some.inj ho
            obtain ⟨v19, g19, e19⟩ := hdep 2 rfl
            have g19 : v19 = .pointer (some ⟨b1, o1 + j * 17, none⟩) := g19
            subst g19
            have e19 := e19 19 rfl
            refine want_none rfl ?_
            exact wp_load_mid 29 (.tmp 19) rfl (b1) (o1 + j * 17) (eval_of e19) (x.cells) _ (HRX.out _ hx) Tryz.underlying29 rfl (by kernel_rfl) (hK _ w1 (Ext.refl _) rfl)
          | 4, ho =>
            obtain rfl := Option.some.inj ho
            have e1 : b.tmps[1]? = some (.slice (some ⟨b2, o2, none⟩) lb.length c2) := hmiss 1 rfl
            refine want_none rfl ?_
            exact op_move rfl (eval_of e1) (hK _ w1 (Ext.refl _) rfl)
          | 5, ho =>
            obtain rfl := Option.some.inj ho
            have e5 : b.tmps[5]? = some (.int .i64 (j : Int)) := hmiss 5 rfl
            refine want_none rfl ?_
            exact op_move rfl (eval_of e5) (hK _ w1 (Ext.refl _) rfl)
          | 6, ho =>
            obtain rfl := Option.some.inj ho
            obtain ⟨v21, g21, e21⟩ := hdep 4 rfl
            have g21 : v21 = .slice (some ⟨b2, o2, none⟩) lb.length c2 := g21
            subst g21
            have e21 := e21 21 rfl
            obtain ⟨v22, g22, e22⟩ := hdep 5 rfl
            have g22 : v22 = .int .i64 (j : Int) := g22
            subst g22
            have e22 := e22 22 rfl
            refine want_none rfl ?_
            exact op_run (by unfold execOp; simp [e21, e22, Act.eval, go_sem, hlt2, hj0]) (hK _ w1 (Ext.refl _) rfl)
          | 7, ho =>
            obtain rfl := Option.some.inj ho
            obtain ⟨v23, g23, e23⟩ := hdep 6 rfl
            have g23 : v23 = .pointer (some ⟨b2, o2 + j * 17, none⟩) := g23
            subst g23
            have e23 := e23 23 rfl
            refine want_none rfl ?_
            exact wp_load_mid 29 (.tmp 23) rfl (b2) (o2 + j * 17) (eval_of e23) (y.cells) _ (HRY.out _ hx) Tryz.underlying29 rfl (by kernel_rfl) (hK _ w1 (Ext.refl _) rfl)
          | 8, ho =>
            obtain rfl := Option.some.inj ho
            obtain ⟨v20, g20, e20⟩ := hdep 3 rfl
            have g20 : v20 = .agg x.cells.toArray := g20
            subst g20
            have e20 := e20 20 rfl
            obtain ⟨v24, g24, e24⟩ := hdep 7 rfl
            have g24 : v24 = .agg y.cells.toArray := g24
            subst g24
            have e24 := e24 24 rfl
            refine want_none rfl ?_
            exact op_run (by unfold execOp; simp [e20, e24, Act.eval, go_sem, hn]) (hK _ w1 (Ext.refl _) rfl)
          | i + 9, ho => cases ho
        · intro V w9 hx hg
          have g0 : V 0 = .slice (some ⟨b1, o1, none⟩) la.length c := hg 0 (by decide)
          have g1 : V 1 = .int .i64 (j : Int) := hg 1 (by decide)
          have g2 : V 2 = .pointer (some ⟨b1, o1 + j * 17, none⟩) := hg 2 (by decide)
          have g3 : V 3 = .agg x.cells.toArray := hg 3 (by decide)
          have g4 : V 4 = .slice (some ⟨b2, o2, none⟩) lb.length c2 := hg 4 (by decide)
          have g5 : V 5 = .int .i64 (j : Int) := hg 5 (by decide)
          have g6 : V 6 = .pointer (some ⟨b2, o2 + j * 17, none⟩) := hg 6 (by decide)
          have g7 : V 7 = .agg y.cells.toArray := hg 7 (by decide)
          have g8 : V 8 = .bool false := hg 8 (by decide)
          simp only [List.length_cons, List.length_nil, fillAllN, dstOf, Act.put, List.getElem?_toArray, List.getElem?_cons_zero, List.getElem?_cons_succ, Option.bind_some, g0, g1, g2, g3, g4, g5, g6, g7, g8, List.setIfInBounds_toArray, List.set_cons_zero, List.set_cons_succ]
          clear g0 g1 g2 g3 g4 g5 g6 g7 g8 hg
          have HX9 := Lib.hid (HX.out.trans hx)
          go_wp2_with fail
          go_roundw
          case rel =>
           refine ⟨j + 1, by omega, by go_num, fun i x' y' hi h h' => ?_, HX9.out⟩
           rcases Nat.lt_succ_iff_lt_or_eq.1 hi with h1 | rfl
           · exact HNO.out i x' y' h1 h h'
           · rw [HXJ.out] at h; injection h with h; rw [HYJ.out] at h'; injection h' with h'; subst h h'; simpa using HBE.out
          case measure => simp [intOf]; omega
      · go_upto_region 6 with fail
        refine wp_region_rel (fun i v w' => match i with
            | 0 => v = .slice (some ⟨b1, o1, none⟩) la.length c
            | 1 => v = .int .i64 (j : Int)
            | 2 => v = .pointer (some ⟨b1, o1 + j * 17, none⟩)
            | 3 => v = .agg x.cells.toArray
            | 4 => v = .slice (some ⟨b2, o2, none⟩) lb.length c2
            | 5 => v = .int .i64 (j : Int)
            | 6 => v = .pointer (some ⟨b2, o2 + j * 17, none⟩)
            | 7 => v = .agg y.cells.toArray
            | 8 => v = .bool true
            | _ => True) hm (by kernel_rfl) (by kernel_rfl) rfl ?_ ?_ ?_
        · intro i v w1 w2 hx h
          match i, h with
          | 0, h => exact h
          | 1, h => exact h
          | 2, h => exact h
          | 3, h => exact h
          | 4, h => exact h
          | 5, h => exact h
          | 6, h => exact h
          | 7, h => exact h
          | 8, h => exact h
          | i + 9, h => exact h
        · intro i o ho b w1 hx hmiss hdep K hK
          match i, ho with
          | 0, ho =>
            obtain rfl := Option.some.inj ho
            have e0 : b.tmps[0]? = some (.slice (some ⟨b1, o1, none⟩) la.length c) := hmiss 0 rfl
            refine want_none rfl ?_
            exact op_move rfl (eval_of e0) (hK _ w1 (Ext.refl _) rfl)
          | 1, ho =>
            obtain rfl := Option.some.inj ho
            have e5 : b.tmps[5]? = some (.int .i64 (j : Int)) := hmiss 5 rfl
            refine want_none rfl ?_
            exact op_move rfl (eval_of e5) (hK _ w1 (Ext.refl _) rfl)
          | 2, ho =>
            obtain rfl := Option.some.inj ho
            obtain ⟨v17, g17, e17⟩ := hdep 0 rfl
            have g17 : v17 = .slice (some ⟨b1, o1, none⟩) la.length c := g17
            subst g17
            have e17 := e17 17 rfl
            obtain ⟨v18, g18, e18⟩ := hdep 1 rfl
            have g18 : v18 = .int .i64 (j : Int) := g18
            subst g18
            have e18 := e18 18 rfl
            refine want_none rfl ?_
            exact op_run (by unfold execOp; simp [e17, e18, Act.eval, go_sem, hlt, hj0]) (hK _ w1 (Ext.refl _) rfl)
          | 3, ho =>
            obtain rfl := Option.some.inj ho
            obtain ⟨v19, g19, e19⟩ := hdep 2 rfl
            have g19 : v19 = .pointer (some ⟨b1, o1 + j * 17, none⟩) := g19
            subst g19
            have e19 := e19 19 rfl
            refine want_none rfl ?_
            exact wp_load_mid 29 (.tmp 19) rfl (b1) (o1 + j * 17) (eval_of e19) (x.cells) _ (HRX.out _ hx) Tryz.underlying29 rfl (by kernel_rfl) (hK _ w1 (Ext.refl _) rfl)
          | 4, ho =>
            obtain rfl := Option.some.inj ho
            have e1 : b.tmps[1]? = some (.slice (some ⟨b2, o2, none⟩) lb.length c2) := hmiss 1 rfl
            refine want_none rfl ?_
            exact op_move rfl (eval_of e1) (hK _ w1 (Ext.refl _) rfl)
          | 5, ho =>
            obtain rfl := Option.some.inj ho
            have e5 : b.tmps[5]? = some (.int .i64 (j : Int)) := hmiss 5 rfl
            refine want_none rfl ?_
            exact op_move rfl (eval_of e5) (hK _ w1 (Ext.refl _) rfl)
          | 6, ho =>
            obtain rfl := Option.some.inj ho
            obtain ⟨v21, g21, e21⟩ := hdep 4 rfl
            have g21 : v21 = .slice (some ⟨b2, o2, none⟩) lb.length c2 := g21
            subst g21
            have e21 := e21 21 rfl
            obtain ⟨v22, g22, e22⟩ := hdep 5 rfl
            have g22 : v22 = .int .i64 (j : Int) := g22
            subst g22
            have e22 := e22 22 rfl
            refine want_none rfl ?_
            exact op_run (by unfold execOp; simp [e21, e22, Act.eval, go_sem, hlt2, hj0]) (hK _ w1 (Ext.refl _) rfl)
          | 7, ho =>
            obtain rfl := Option.some.inj ho
            obtain ⟨v23, g23, e23⟩ := hdep 6 rfl
            have g23 : v23 = .pointer (some ⟨b2, o2 + j * 17, none⟩) := g23
            subst g23
            have e23 := e23 23 rfl
            refine want_none rfl ?_
            exact wp_load_mid 29 (.tmp 23) rfl (b2) (o2 + j * 17) (eval_of e23) (y.cells) _ (HRY.out _ hx) Tryz.underlying29 rfl (by kernel_rfl) (hK _ w1 (Ext.refl _) rfl)
          | 8, ho =>
            obtain rfl := Option.some.inj ho
            obtain ⟨v20, g20, e20⟩ := hdep 3 rfl
            have g20 : v20 = .agg x.cells.toArray := g20
            subst g20
            have e20 := e20 20 rfl
            obtain ⟨v24, g24, e24⟩ := hdep 7 rfl
            have g24 : v24 = .agg y.cells.toArray := g24
            subst g24
            have e24 := e24 24 rfl
            refine want_none rfl ?_
            exact op_run (by unfold execOp; simp [e20, e24, Act.eval, go_sem, hn]) (hK _ w1 (Ext.refl _) rfl)
          | i + 9, ho => cases ho
        · intro V w9 hx hg
          have g0 : V 0 = .slice (some ⟨b1, o1, none⟩) la.length c := hg 0 (by decide)
          have g1 : V 1 = .int .i64 (j : Int) := hg 1 (by decide)
          have g2 : V 2 = .pointer (some ⟨b1, o1 + j * 17, none⟩) := hg 2 (by decide)
          have g3 : V 3 = .agg x.cells.toArray := hg 3 (by decide)
          have g4 : V 4 = .slice (some ⟨b2, o2, none⟩) lb.length c2 := hg 4 (by decide)
          have g5 : V 5 = .int .i64 (j : Int) := hg 5 (by decide)
          have g6 : V 6 = .pointer (some ⟨b2, o2 + j * 17, none⟩) := hg 6 (by decide)
          have g7 : V 7 = .agg y.cells.toArray := hg 7 (by decide)
          have g8 : V 8 = .bool true := hg 8 (by decide)
          simp only [List.length_cons, List.length_nil, fillAllN, dstOf, Act.put, List.getElem?_toArray, List.getElem?_cons_zero, List.getElem?_cons_succ, Option.bind_some, g0, g1, g2, g3, g4, g5, g6, g7, g8, List.setIfInBounds_toArray, List.set_cons_zero, List.set_cons_succ]
          clear g0 g1 g2 g3 g4 g5 g6 g7 g8 hg
          have HX9 := Lib.hid (HX.out.trans hx)
          go_wp2_with fail
          go_ret
          exact ⟨ret_bool (same_no HXJ.out HYJ.out (by simpa using HBE.out)).symm, HX9.out⟩
    · obtain rfl : j = la.length := by omega
      go_wp2
      go_ret
      exact ⟨ret_bool (same_yes HL.out HNO.out).symm, HX.out⟩
 · have hb : ((la.length : Int) != (lb.length : Int)) = true := by rw [bne_iff_ne]; omega
   have HL := Lib.hid hl
   clear hl
   go_enter Tryz.func21, Tryz.ntmps21
   go_wp2
   go_ret
   exact ⟨ret_bool (decide_eq_false (fun h => HL.out (by rw [h]))).symm, Ext.refl _⟩
end Go.Proofs.YtlinhgannajfpaaGreatDoor

/- The reference's Compare. -/
namespace Go.Proofs.YtlinhgannajfpaaGreatDoor
open Go Go.RowKit

theorem cells_nums (x : Ed) (k : Nat) : x.cells[k]? = ((numsE x)[k]?).map (fun v => .int .i64 v) := by
 rw [← List.getElem?_map]; rfl
set_option maxRecDepth 100000 in
set_option maxHeartbeats 4000000 in
theorem refCompare_any (x y : Ed) (w : World) : Calls Tryz.prog 20 #[.agg x.cells.toArray, .agg y.cells.toArray] w fun e w' => e = .returned (.int .i64 (cmpV (numsE x) (numsE y))) ∧ Ext w w' := by
 have hm := mixed
 have HB0 := Lib.hid ((Arr.new w 29 x.cells).alloc (.cells y.cells.toArray 29))
 have HB1 := Lib.hid (Arr.new1 w (.cells x.cells.toArray 29) 29 y.cells)
 have HX0 := Lib.hid (show Ext w ((w.alloc (.cells x.cells.toArray 29)).alloc (.cells y.cells.toArray 29)) from ((Ext.refl w).alloc _).alloc _)
 go_enter Tryz.func20, Tryz.ntmps20
 go_upto_region 1 with fail
 obtain ⟨W0, hW⟩ : ∃ W, W = (w.alloc (.cells x.cells.toArray 29)).alloc (.cells y.cells.toArray 29) := ⟨_, rfl⟩
 rw [← hW] at HB0 HB1 HX0
 rw [← hW]
 clear hW
 go_upto_region 2 with (first
  | (refine wpList_load_blk 29 (.tmp 2) rfl rfl HB0.out rfl _ Tryz.underlying29 rfl (by kernel_rfl) ?_)
  | (go_at_call 67; refine (refNumbers_any x _).mono ?_; rintro e W1 ⟨b1, rfl, ha1, hx1, _⟩))
 have HA1 := Lib.hid ha1; have HX1 := Lib.hid (HX0.out.trans hx1); have HB11 := Lib.hid (HB1.out.ext hx1)
 clear ha1 hx1
 go_upto_region 3 with (first
  | (refine wpList_load_blk 29 (.tmp 3) rfl rfl HB11.out rfl _ Tryz.underlying29 rfl (by kernel_rfl) ?_)
  | (go_at_call 67; refine (refNumbers_any y _).mono ?_; rintro e W2 ⟨b2, rfl, ha2, hx2, _⟩))
 have HA2 := Lib.hid ha2; have HX2 := Lib.hid (HX1.out.trans hx2); have HA12 := Lib.hid (HA1.out.ext hx2)
 clear ha2 hx2
 go_wp2_with fail
 go_loopw [7] (fun i wr => ∃ k : Nat, i = .int .i64 k ∧ k ≤ 17 ∧ (∀ j, j < k → (numsE x)[j]? = (numsE y)[j]?) ∧ Ext W2 wr) (fun i _ => 17 - (intOf i).toNat)
 case atStart => exact ⟨0, rfl, by omega, fun j hj => by omega, Ext.refl _⟩
 case round =>
  obtain ⟨k, rfl, hk, hg, hx⟩ := hrel
  have HG := Lib.hid hg
  by_cases hlt : k < 17
  · obtain ⟨u, hu⟩ : ∃ u, (numsE x)[k]? = some u := ⟨_, List.getElem?_eq_getElem (show k < (numsE x).length from hlt)⟩
    obtain ⟨v, hv⟩ : ∃ v, (numsE y)[k]? = some v := ⟨_, List.getElem?_eq_getElem (show k < (numsE y).length from hlt)⟩
    have c1 := (HA12.out.ext hx).cell k
    have c2 := (HA2.out.ext hx).cell k
    rw [cells_nums, hu] at c1
    rw [cells_nums, hv] at c2
    simp only [Option.map_some] at c1 c2
    have l1 := (HA12.out.ext hx).lt
    have l2 := (HA2.out.ext hx).lt
    have HX := Lib.hid hx
    have HU := Lib.hid hu; have HV := Lib.hid hv
    have hG := near_old
    have hk0 : 0 ≤ (k : Int) := by omega
    have hk1 : ¬ ((17 : Int) ≤ (k : Int)) := by omega
    have hk2 : (k : Int) < 17 := by omega
    clear hg hx hu hv
    go_upto_region 6 with fail
    refine wp_region_near (by assumption) (by kernel_rfl) ?_
    repeat (go_big_quiet_step (fail))
    refine wpQuiet_nil ?_
    intro w1 hw1
    have hy := Ext.of_near hw1
    clear hw1
    have HY := Lib.hid hy
    have l1' := Nat.lt_of_lt_of_le l1 hy.size
    have l2' := Nat.lt_of_lt_of_le l2 hy.size
    have c1' := (hy.below.cell (p := ⟨b1, k, none⟩) l1).trans c1
    have c2' := (hy.below.cell (p := ⟨b2, k, none⟩) l2).trans c2
    clear c1 c2 l1 l2 hy
    by_cases h1 : u < v
    · have HC := Lib.hid (cmpV_at HG.out HU.out HV.out (by omega))
      go_wp2_with fail
      go_ret
      exact ⟨by rw [HC.out]; unfold cmpI; rw [if_pos (by omega)]; rfl, HX2.out.trans (HX.out.trans HY.out)⟩
    · have h1' : v ≤ u := by omega
      go_upto_region 8 with fail
      refine wp_region_near (by assumption) (by kernel_rfl) ?_
      repeat (go_big_quiet_step (fail))
      refine wpQuiet_nil ?_
      intro w1 hw1
      have hy := Ext.of_near hw1
      clear hw1
      have HY2 := Lib.hid hy
      by_cases h2 : v < u
      · have HC := Lib.hid (cmpV_at HG.out HU.out HV.out (by omega))
        go_wp2_with fail
        go_ret
        exact ⟨by rw [HC.out]; unfold cmpI; rw [if_neg (by omega), if_pos (by omega)]; rfl, HX2.out.trans (HX.out.trans (HY.out.trans HY2.out))⟩
      · have h3 : u = v := by omega
        have HG2 := Lib.hid (show ∀ j, j < k + 1 → (numsE x)[j]? = (numsE y)[j]? from fun j hj => by
         by_cases hjk : j < k
         · exact HG.out j hjk
         · obtain rfl : j = k := by omega
           rw [HU.out, HV.out, h3])
        have h2' : u ≤ v := by omega
        go_wp2_with fail
        go_roundw
        case rel => exact ⟨k + 1, by go_num, by omega, HG2.out, HX.out.trans (HY.out.trans HY2.out)⟩
        case measure => simp [intOf]; omega
  · obtain rfl : k = 17 := by omega
    have HE := Lib.hid (show numsE x = numsE y from List.ext_getElem? fun j => by
     by_cases hj : j < 17
     · exact HG.out j hj
     · rw [List.getElem?_eq_none (show (numsE x).length ≤ j by show 17 ≤ j; omega), List.getElem?_eq_none (show (numsE y).length ≤ j by show 17 ≤ j; omega)])
    go_wp2_with fail
    go_ret
    exact ⟨by rw [HE.out, cmpV_self]; rfl, HX2.out.trans hx⟩
end Go.Proofs.YtlinhgannajfpaaGreatDoor

/- The reference's Sorted. -/
namespace Go.Proofs.YtlinhgannajfpaaGreatDoor
open Go Go.RowKit

theorem IsOrd.nil : IsOrd [] [] := ⟨List.Pairwise.nil, fun _ => Iff.rfl⟩
theorem IsOrd.seen {l o : List Ed} {k : Nat} {x : Ed} (h : IsOrd (l.take k) o) (hx : l[k]? = some x) (hm : x ∈ o) : IsOrd (l.take (k + 1)) o :=
 ⟨h.srt, fun q => by
   rw [take_snocR hx, List.mem_append, List.mem_singleton, h.mem]
   exact ⟨.inl, fun e => e.elim id fun e => e ▸ (h.mem x).1 hm⟩⟩
theorem IsOrd.put {l o : List Ed} {k q : Nat} {x : Ed} (h : IsOrd (l.take k) o) (hx : l[k]? = some x) (ha : AtE o x q) (hlo : ∀ y, 0 < q → o[q - 1]? = some y → befE y x = true) : IsOrd (l.take (k + 1)) (o.take q ++ (x :: o.drop q)) :=
 ⟨ha.put h.srt hlo, fun p => by
   rw [put_mem, h.mem, take_snocR hx, List.mem_append, List.mem_singleton]
   exact or_comm⟩
set_option maxRecDepth 100000 in
set_option maxHeartbeats 8000000 in
theorem refSorted_any (A : Option Addr) (c : Nat) (l : List Ed) (w : World) (hs : Sv w w.heap.size 17 A c (rowsE l)) (hb : l.length ≤ 10000) :
    Calls Tryz.prog 23 #[.slice A l.length c] w fun e w' => ∃ m, IsOrd l m ∧ RetE m w e w' := by
 have hm := mixed
 obtain ⟨i0, hi, hz0, hz1, hz2⟩ := info_parts infoEd
 have HI := Lib.hid hi; have HZ := Lib.hid hz0; have HZ1 := Lib.hid hz1; have HZ2 := Lib.hid hz2; clear hi hz0 hz1 hz2
 have HS := Lib.hid hs
 have hln : l.length ≤ 9223372036854775807 := by omega
 clear hs
 go_enter Tryz.func23, Tryz.ntmps23
 go_wp2_with fail
 go_loopw [3, 4, 5, 6] (fun ov kv _ _ wr => ∃ (k : Nat) (o : List Ed) (A1 : Option Addr) (c1 : Nat), kv = .int .i64 k ∧ k ≤ l.length ∧ ov = .slice A1 o.length c1 ∧ o.length ≤ k ∧ Sv wr wr.heap.size 17 A1 c1 (rowsE o) ∧ IsOrd (l.take k) o ∧ Ext w wr) (fun _ kv _ _ _ => l.length - (intOf kv).toNat)
 case atStart => exact ⟨0, [], none, 0, rfl, Nat.zero_le _, rfl, Nat.le_refl _, Sv.nil _ _ _, IsOrd.nil, Ext.refl _⟩
 case round =>
  obtain ⟨k, o, A1, c1, rfl, hk, rfl, hok, ho, hio, hx⟩ := hrel
  have HO := Lib.hid ho; have HX := Lib.hid hx; have HIO := Lib.hid hio
  have hoc := ho.le
  rw [rowsE_length] at hoc
  clear ho hx hio
  by_cases hlt : k < l.length
  · obtain ⟨x, hxk⟩ : ∃ x, l[k]? = some x := ⟨_, List.getElem?_eq_getElem hlt⟩
    obtain ⟨bl, ol, rfl, hbl, hra⟩ := ed_row HS.out hxk
    have HRA := Lib.hid (rangeAt_ext hra hbl HX.out)
    have HXK := Lib.hid hxk
    have HRAX := Lib.hid (fun wy (hy : Ext wr wy) => rangeAt_ext HRA.out (Nat.lt_of_lt_of_le hbl HX.out.size) hy)
    have hk0 : 0 ≤ (k : Int) := by omega
    have hk1 : ¬ ((l.length : Int) ≤ (k : Int)) := by omega
    clear hxk hra hbl
    go_wp2_with fail
    go_loopw [5] (fun av wy => ∃ q : Nat, av = .int .i64 q ∧ AtE o x q ∧ Ext wr wy) (fun av _ => (intOf av).toNat)
    case atStart => exact ⟨o.length, rfl, AtE.start o x, Ext.refl _⟩
    case round =>
     obtain ⟨q, rfl, hat, hx⟩ := hrel
     have HQO := Lib.hid hat.le
     have HQC := Lib.hid (Nat.le_trans hat.le hoc)
     have hqo := hat.le
     have HAT := Lib.hid hat; have HXQ := Lib.hid hx
     clear hat hx
     rcases Nat.eq_zero_or_pos q with hqz | hqp0
     · have hz1 : ¬ (0 < q) := by omega
       have hz2 : ¬ ((0 : Int) < (q : Int)) := by omega
       have HIO2 := Lib.hid (HIO.out.put HXK.out HAT.out (fun y h => absurd h hz1))
       clear hqz
       go_upto_region 6 with fail
       refine wp_region_val [some (.int .i64 (q : Int)), some (.bool false), some (.bool false), some (undef), some (undef), some (undef), some (undef), some (undef), some (undef), some (undef), some (undef), some (undef), some (undef), some (undef), some (.bool false)] hm (by kernel_rfl) (by kernel_rfl) rfl ?_ ?_ rfl rfl
       · refine c_ s_mv ?_
         refine c_ (s_run1 15 (hr := fun b w1 _ e => by unfold execOp; simp [e, Act.eval, go_sem, hz1])) ?_
         refine c_ s_mv ?_
         refine c_ s_no ?_
         refine c_ s_no ?_
         refine c_ s_no ?_
         refine c_ s_no ?_
         refine c_ s_no ?_
         refine c_ s_no ?_
         refine c_ s_no ?_
         refine c_ s_no ?_
         refine c_ s_no ?_
         refine c_ s_no ?_
         refine c_ s_no ?_
         refine c_ (s_run2 17 28 (hr := fun b w1 _ e f => by unfold execOp; simp [e, f, Act.eval, go_sem])) ?_
         exact trivial
       · intro w9 hx
         simp only [fillM, Act.put, List.getElem?_cons_zero, List.getElem?_cons_succ, Option.join_some, Option.getD_some, List.setIfInBounds_toArray, List.set_cons_zero, List.set_cons_succ, Nat.zero_add, Nat.reduceAdd]
         have HX6 := Lib.hid (HXQ.out.trans hx)
         clear hx
         go_upto_region 8 with fail
         refine wp_region_val [some (.int .i64 (q : Int)), some (.bool false), some (.bool false), some (undef), some (undef), some (undef), some (undef), some (undef), some (undef), some (undef), some (undef), some (undef), some (undef), some (.bool false)] hm (by kernel_rfl) (by kernel_rfl) rfl ?_ ?_ rfl rfl
         · refine c_ s_mv ?_
           refine c_ (s_run1 32 (hr := fun b w1 _ e => by unfold execOp; simp [e, Act.eval, go_sem, hz1])) ?_
           refine c_ s_mv ?_
           refine c_ s_no ?_
           refine c_ s_no ?_
           refine c_ s_no ?_
           refine c_ s_no ?_
           refine c_ s_no ?_
           refine c_ s_no ?_
           refine c_ s_no ?_
           refine c_ s_no ?_
           refine c_ s_no ?_
           refine c_ s_no ?_
           refine c_ (s_run2 34 44 (hr := fun b w1 _ e f => by unfold execOp; simp [e, f, Act.eval, go_sem])) ?_
           exact trivial
         · intro w9 hx
           simp only [fillM, Act.put, List.getElem?_cons_zero, List.getElem?_cons_succ, Option.join_some, Option.getD_some, List.setIfInBounds_toArray, List.set_cons_zero, List.set_cons_succ, Nat.zero_add, Nat.reduceAdd]
           have HX8 := Lib.hid (HX6.out.trans hx)
           clear hx
           have HXW := Lib.hid (HX.out.trans HX8.out)
           have HSW := Lib.hid (HO.out.ext HX8.out)
           have HST := Lib.hid (show Sv w9 w9.heap.size 17 (A1) c1 (rowsE (o.take q)) by rw [rowsE_take]; exact HSW.out.take q)
           have HTL := Lib.hid (show (rowsE (o.take q)).length = q by rw [rowsE_length, List.length_take]; omega)
           go_upto_region 11 with (first
            | (with_reducible refine wpList_slice_to rfl 35 29 (.tmp 47) (.tmp 48) rfl i0 Tryz.underlying35 HI.out (A1) o.length c1 q rfl rfl HQC.out ?_)
            | (at_builtin; refine wpList_append_sv _ rfl (.tmp 46) (.tmp 49) 35 rfl w9.heap.size 29 i0 (.agg #[.int .i64 0, .int .i64 0, .int .i64 0, .int .i64 0, .int .i64 0, .int .i64 0, .int .i64 0, .int .i64 0, .int .i64 0, .int .i64 0, .int .i64 0, .int .i64 0, .int .i64 0, .int .i64 0, .int .i64 0, .int .i64 0, .int .i64 0]) 17 136 Tryz.underlying35 HI.out HZ.out HZ1.out HZ2.out rfl (by decide) _ 0 [] rfl (World.ownsRow_nil _ _ _ _) w9.heap.size (A1) q c1 (rowsE (o.take q)) rfl HST.out HTL.out (by unfold maxLen; omega) (by omega) (Nat.le_refl _) ?_; intro v2 W2 g1 g2 _))
           have hx3 : Ext w9 W2 := (Ext.refl _).grown g2 (own_low (World.ownsRow_nil w9 w9.heap.size 29 17))
           have HO3 := Lib.hid (show W2.ownsRow w9.heap.size 29 17 v2 q (rowsE (o.take q)).flatten by simpa using g1)
           have HRA2 := Lib.hid (HRAX.out W2 (HX8.out.trans hx3))
           have hx6 : Ext W2 (W2.alloc (.cells x.cells.toArray 29)) := (Ext.refl _).alloc _
           have HSN := Lib.hid (show Sv (W2.alloc (.cells x.cells.toArray 29)) (W2.alloc (.cells x.cells.toArray 29)).heap.size 17 (some ⟨W2.heap.size, 0, none⟩) 1 (rowsE [x]) from
            ⟨by simp [rowsE], by decide, rowsE_rwk _, fun _ => ⟨W2.heap.size, 0, rfl, by simp, fun j u hu => by
              rw [Nat.zero_add, cell_of_row _ _ _ _ _ _ (heap_alloc_new W2 _)]
              simpa [rowsE] using hu⟩⟩)
           have HO4 := Lib.hid (own_ext HO3.out hx6)
           have HX4 := Lib.hid (hx3.trans hx6)
           clear g1 g2 hx3 hx6
           go_upto_region 12 with (first
            | (with_reducible refine wpList_load_mid rfl 29 (.tmp 54) rfl bl (ol + k * 17) rfl x.cells _ HRA2.out Tryz.underlying29 rfl (by kernel_rfl) ?_)
            | (refine wpList_buildRow rfl 35 29 55 rfl 17 (by decide) (by decide) x.cells rfl rfl Tryz.underlying35 (by kernel_rfl) (by kernel_rfl) ?_)
            | (at_builtin; refine wpList_append_sv _ rfl (.tmp 51) (.tmp 56) 35 rfl w9.heap.size 29 i0 (.agg #[.int .i64 0, .int .i64 0, .int .i64 0, .int .i64 0, .int .i64 0, .int .i64 0, .int .i64 0, .int .i64 0, .int .i64 0, .int .i64 0, .int .i64 0, .int .i64 0, .int .i64 0, .int .i64 0, .int .i64 0, .int .i64 0, .int .i64 0]) 17 136 Tryz.underlying35 HI.out HZ.out HZ1.out HZ2.out rfl (by decide) _ q _ rfl HO4.out _ _ 1 1 (rowsE [x]) rfl HSN.out rfl (by unfold maxLen; omega) (by omega) HX4.out.size ?_; intro v6 W6 g1 g2 _))
           have HX6 := Lib.hid (HX4.out.own HO4.out g2 (Nat.le_refl _))
           have HO6 := Lib.hid g1
           clear g1 g2
           have HSD := Lib.hid (show Sv W6 W6.heap.size 17 (if c1 = q then (A1) else Option.map (fun z : Addr => z.add (q * 17)) (A1)) (c1 - q) (rowsE (o.drop q)) by rw [show rowsE (o.drop q) = (rowsE o).drop q by simp [rowsE]]; exact (HSW.out.ext HX6.out).drop (by rw [rowsE_length]; exact HQO.out))
           have HDL := Lib.hid (show (rowsE (o.drop q)).length = o.length - q by rw [rowsE_length, List.length_drop])
           go_wp2_with (first
            | (with_reducible refine wpList_slice_from rfl 35 29 (.tmp 59) (.tmp 60) rfl i0 17 Tryz.underlying35 HI.out HZ1.out (A1) o.length c1 q rfl rfl HQO.out ?_)
            | (at_builtin; refine wpList_append_sv _ rfl (.tmp 58) (.tmp 61) 35 rfl w9.heap.size 29 i0 (.agg #[.int .i64 0, .int .i64 0, .int .i64 0, .int .i64 0, .int .i64 0, .int .i64 0, .int .i64 0, .int .i64 0, .int .i64 0, .int .i64 0, .int .i64 0, .int .i64 0, .int .i64 0, .int .i64 0, .int .i64 0, .int .i64 0, .int .i64 0]) 17 136 Tryz.underlying35 HI.out HZ.out HZ1.out HZ2.out rfl (by decide) _ (q + 1) _ rfl HO6.out W6.heap.size (if c1 = q then (A1) else Option.map (fun z : Addr => z.add (q * 17)) (A1)) (o.length - q) (c1 - q) (rowsE (o.drop q)) rfl HSD.out HDL.out (by unfold maxLen; omega) (by omega) HX6.out.size ?_; intro v7 W7 g1 g2 _))
           have HX7 := Lib.hid (HX6.out.own HO6.out g2 (Nat.le_refl _))
           have hol : (o.take q ++ (x :: o.drop q)).length = q + 1 + (o.length - q) := by rw [List.length_append, List.length_take, List.length_cons, List.length_drop]; omega
           have hor : (rowsE (o.take q ++ (x :: o.drop q))).flatten = (rowsE (o.take q)).flatten ++ (rowsE [x]).flatten ++ (rowsE (o.drop q)).flatten := by simp [rowsE]
           have HO7 := Lib.hid (show W7.ownsRow w9.heap.size 29 17 v7 (o.take q ++ (x :: o.drop q)).length (rowsE (o.take q ++ (x :: o.drop q))).flatten by rw [hol, hor]; exact g1)
           clear hor g1 g2
           generalize o.take q ++ (x :: o.drop q) = o2 at HO7 HIO2 hol
           obtain ⟨A7, c7, rfl, _⟩ := own_form HO7.out
           go_roundw
           case rel => exact ⟨k + 1, o2, A7, c7, by go_num, by omega, rfl, by omega, Sv.of_own HO7.out (rowsE_rwk o2) (rowsE_length o2), HIO2.out, HXW.out.trans HX7.out⟩
           case measure => simp [intOf]; omega
     · obtain ⟨p, hpq⟩ : ∃ p, q = p + 1 := ⟨q - 1, by omega⟩
       have hqp : IntKind.i64.wrap ((q : Int) - 1) = (p : Int) := by rw [IntKind.wrap_i64]; omega
       have hpl : p < o.length := by omega
       have hp0 : 0 ≤ (p : Int) := by omega
       have hp1 : ¬ ((o.length : Int) ≤ (p : Int)) := by omega
       have hq0 : 0 < q := hqp0
       have hq1 : (0 : Int) < (q : Int) := by omega
       obtain ⟨y, hyp⟩ : ∃ y, o[p]? = some y := ⟨_, List.getElem?_eq_getElem hpl⟩
       obtain ⟨bo, oo, rfl, hbo, hro⟩ := ed_row HO.out hyp
       have HYP := Lib.hid hyp
       have HRX := Lib.hid (fun w2 (h : Ext wr w2) => HRAX.out w2 (HXQ.out.trans h))
       have HRY := Lib.hid (fun w2 (h : Ext wr w2) => rangeAt_ext hro hbo (HXQ.out.trans h))
       have HC := Lib.hid (fun w => refCompare_any x y w)
       have hlt9 := @cmpV_lt (numsE x) (numsE y)
       generalize cmpV (numsE x) (numsE y) = cv at HC hlt9
       have HPQ := Lib.hid hpq
       clear hyp hro hbo hqp0 hpq
       cases hbe : befE x y
       · have hcm : ¬ cv < 0 := fun h => by have := hlt9.1 h; unfold befE at hbe; rw [hbe] at this; cases this
         have HSE := Lib.hid (AtE.seen HYP.out hbe)
         clear hlt9 hbe
         go_upto_region 6 with fail
         refine wp_region_val [some (.int .i64 (q : Int)), some (.bool true), some (.bool true), some (.slice (some ⟨bl, ol, none⟩) l.length c), some (.int .i64 (k : Int)), some (.pointer (some ⟨bl, ol + k * 17, none⟩)), some (.agg x.cells.toArray), some (.slice (some ⟨bo, oo, none⟩) o.length c1), some (.int .i64 (q : Int)), some (.int .i64 (p : Int)), some (.pointer (some ⟨bo, oo + p * 17, none⟩)), some (.agg y.cells.toArray), some (.int .i64 cv), some (.bool false), some (.bool false)] hm (by kernel_rfl) (by kernel_rfl) rfl ?_ ?_ rfl rfl
         · refine c_ s_mv ?_
           refine c_ (s_run1 15 (hr := fun b w1 _ e => by unfold execOp; simp [e, Act.eval, go_sem, hq0])) ?_
           refine c_ s_mv ?_
           refine c_ s_mv ?_
           refine c_ s_mv ?_
           refine c_ (s_run2 18 19 (hr := fun b w1 _ e f => by unfold execOp; simp [e, f, Act.eval, go_sem, hk0, hk1])) ?_
           refine c_ (s_mid (bk := bl) (off := ol + k * 17) (fun w1 hx => HRX.out _ hx) Tryz.underlying29) ?_
           refine c_ s_mv ?_
           refine c_ s_mv ?_
           refine c_ (s_run1 23 (hr := fun b w1 _ e => by unfold execOp; simp [e, Act.eval, go_sem, hqp])) ?_
           refine c_ (s_run2 22 24 (hr := fun b w1 _ e f => by unfold execOp; simp [e, f, Act.eval, go_sem, hpl, hp0])) ?_
           refine c_ (s_mid (bk := bo) (off := oo + p * 17) (fun w1 hx => HRY.out _ hx) Tryz.underlying29) ?_
           refine c_ (s_call fun w1 hx => HC.out w1) ?_
           refine c_ (s_run1 27 (hr := fun b w1 _ e => by unfold execOp; simp [e, Act.eval, go_sem, hcm])) ?_
           refine c_ (s_run2 17 28 (hr := fun b w1 _ e f => by unfold execOp; simp [e, f, Act.eval, go_sem])) ?_
           exact trivial
         · intro w9 hx
           simp only [fillM, Act.put, List.getElem?_cons_zero, List.getElem?_cons_succ, Option.join_some, Option.getD_some, List.setIfInBounds_toArray, List.set_cons_zero, List.set_cons_succ, Nat.zero_add, Nat.reduceAdd]
           have HX6 := Lib.hid (HXQ.out.trans hx)
           have HRX2 := Lib.hid (fun w2 (h : Ext w9 w2) => HRX.out w2 (hx.trans h))
           have HRY2 := Lib.hid (fun w2 (h : Ext w9 w2) => HRY.out w2 (hx.trans h))
           have hn := eqEd_run y x
           clear hx hcm
           obtain ⟨W9, hW9⟩ : ∃ W, W = w9 := ⟨_, rfl⟩
           rw [← hW9] at HX6 HRX2 HRY2 ⊢
           clear hW9
           by_cases hyx : y = x
           · rw [decide_eq_true hyx] at hn
             have hcm := True.intro
             have HIO2 := Lib.hid (HIO.out.seen HXK.out (hyx ▸ List.mem_of_getElem? HYP.out))
             clear hyx
             go_upto_region 8 with fail
             refine wp_region_val [some (.int .i64 (q : Int)), some (.bool true), some (.bool true), some (.slice (some ⟨bo, oo, none⟩) o.length c1), some (.int .i64 (q : Int)), some (.int .i64 (p : Int)), some (.pointer (some ⟨bo, oo + p * 17, none⟩)), some (.agg y.cells.toArray), some (.slice (some ⟨bl, ol, none⟩) l.length c), some (.int .i64 (k : Int)), some (.pointer (some ⟨bl, ol + k * 17, none⟩)), some (.agg x.cells.toArray), some (.bool true), some (.bool true)] hm (by kernel_rfl) (by kernel_rfl) rfl ?_ ?_ rfl rfl
             · refine c_ s_mv ?_
               refine c_ (s_run1 32 (hr := fun b w1 _ e => by unfold execOp; simp [e, Act.eval, go_sem, hq0])) ?_
               refine c_ s_mv ?_
               refine c_ s_mv ?_
               refine c_ s_mv ?_
               refine c_ (s_run1 36 (hr := fun b w1 _ e => by unfold execOp; simp [e, Act.eval, go_sem, hqp])) ?_
               refine c_ (s_run2 35 37 (hr := fun b w1 _ e f => by unfold execOp; simp [e, f, Act.eval, go_sem, hpl, hp0])) ?_
               refine c_ (s_mid (bk := bo) (off := oo + p * 17) (fun w1 hx => HRY2.out _ hx) Tryz.underlying29) ?_
               refine c_ s_mv ?_
               refine c_ s_mv ?_
               refine c_ (s_run2 40 41 (hr := fun b w1 _ e f => by unfold execOp; simp [e, f, Act.eval, go_sem, hk0, hk1])) ?_
               refine c_ (s_mid (bk := bl) (off := ol + k * 17) (fun w1 hx => HRX2.out _ hx) Tryz.underlying29) ?_
               refine c_ (s_run2 39 43 (hr := fun b w1 _ e f => by unfold execOp; simp [e, f, Act.eval, go_sem, hn])) ?_
               refine c_ (s_run2 34 44 (hr := fun b w1 _ e f => by unfold execOp; simp [e, f, Act.eval, go_sem])) ?_
               exact trivial
             · intro w9 hx
               simp only [fillM, Act.put, List.getElem?_cons_zero, List.getElem?_cons_succ, Option.join_some, Option.getD_some, List.setIfInBounds_toArray, List.set_cons_zero, List.set_cons_succ, Nat.zero_add, Nat.reduceAdd]
               have HX8 := Lib.hid (HX6.out.trans hx)
               clear hx hn
               go_wp2_with fail
               go_roundw
               case rel => exact ⟨k + 1, o, some ⟨bo, oo, none⟩, c1, by go_num, by omega, rfl, by omega, HO.out.ext HX8.out, HIO2.out, HX.out.trans HX8.out⟩
               case measure => simp [intOf]; omega
           · rw [decide_eq_false hyx] at hn
             have hcm := True.intro
             have HIO2 := Lib.hid (HIO.out.put HXK.out HAT.out (fun z _ hz => by
              rw [HPQ.out, Nat.add_sub_cancel, HYP.out] at hz
              injection hz with hz
              subst hz
              exact HSE.out.resolve_left hyx))
             clear hyx
             go_upto_region 8 with fail
             refine wp_region_val [some (.int .i64 (q : Int)), some (.bool true), some (.bool true), some (.slice (some ⟨bo, oo, none⟩) o.length c1), some (.int .i64 (q : Int)), some (.int .i64 (p : Int)), some (.pointer (some ⟨bo, oo + p * 17, none⟩)), some (.agg y.cells.toArray), some (.slice (some ⟨bl, ol, none⟩) l.length c), some (.int .i64 (k : Int)), some (.pointer (some ⟨bl, ol + k * 17, none⟩)), some (.agg x.cells.toArray), some (.bool false), some (.bool false)] hm (by kernel_rfl) (by kernel_rfl) rfl ?_ ?_ rfl rfl
             · refine c_ s_mv ?_
               refine c_ (s_run1 32 (hr := fun b w1 _ e => by unfold execOp; simp [e, Act.eval, go_sem, hq0])) ?_
               refine c_ s_mv ?_
               refine c_ s_mv ?_
               refine c_ s_mv ?_
               refine c_ (s_run1 36 (hr := fun b w1 _ e => by unfold execOp; simp [e, Act.eval, go_sem, hqp])) ?_
               refine c_ (s_run2 35 37 (hr := fun b w1 _ e f => by unfold execOp; simp [e, f, Act.eval, go_sem, hpl, hp0])) ?_
               refine c_ (s_mid (bk := bo) (off := oo + p * 17) (fun w1 hx => HRY2.out _ hx) Tryz.underlying29) ?_
               refine c_ s_mv ?_
               refine c_ s_mv ?_
               refine c_ (s_run2 40 41 (hr := fun b w1 _ e f => by unfold execOp; simp [e, f, Act.eval, go_sem, hk0, hk1])) ?_
               refine c_ (s_mid (bk := bl) (off := ol + k * 17) (fun w1 hx => HRX2.out _ hx) Tryz.underlying29) ?_
               refine c_ (s_run2 39 43 (hr := fun b w1 _ e f => by unfold execOp; simp [e, f, Act.eval, go_sem, hn])) ?_
               refine c_ (s_run2 34 44 (hr := fun b w1 _ e f => by unfold execOp; simp [e, f, Act.eval, go_sem])) ?_
               exact trivial
             · intro w9 hx
               simp only [fillM, Act.put, List.getElem?_cons_zero, List.getElem?_cons_succ, Option.join_some, Option.getD_some, List.setIfInBounds_toArray, List.set_cons_zero, List.set_cons_succ, Nat.zero_add, Nat.reduceAdd]
               have HX8 := Lib.hid (HX6.out.trans hx)
               clear hx hn
               have HXW := Lib.hid (HX.out.trans HX8.out)
               have HSW := Lib.hid (HO.out.ext HX8.out)
               have HST := Lib.hid (show Sv w9 w9.heap.size 17 (some ⟨bo, oo, none⟩) c1 (rowsE (o.take q)) by rw [rowsE_take]; exact HSW.out.take q)
               have HTL := Lib.hid (show (rowsE (o.take q)).length = q by rw [rowsE_length, List.length_take]; omega)
               go_upto_region 11 with (first
                | (with_reducible refine wpList_slice_to rfl 35 29 (.tmp 47) (.tmp 48) rfl i0 Tryz.underlying35 HI.out (some ⟨bo, oo, none⟩) o.length c1 q rfl rfl HQC.out ?_)
                | (at_builtin; refine wpList_append_sv _ rfl (.tmp 46) (.tmp 49) 35 rfl w9.heap.size 29 i0 (.agg #[.int .i64 0, .int .i64 0, .int .i64 0, .int .i64 0, .int .i64 0, .int .i64 0, .int .i64 0, .int .i64 0, .int .i64 0, .int .i64 0, .int .i64 0, .int .i64 0, .int .i64 0, .int .i64 0, .int .i64 0, .int .i64 0, .int .i64 0]) 17 136 Tryz.underlying35 HI.out HZ.out HZ1.out HZ2.out rfl (by decide) _ 0 [] rfl (World.ownsRow_nil _ _ _ _) w9.heap.size (some ⟨bo, oo, none⟩) q c1 (rowsE (o.take q)) rfl HST.out HTL.out (by unfold maxLen; omega) (by omega) (Nat.le_refl _) ?_; intro v2 W2 g1 g2 _))
               have hx3 : Ext w9 W2 := (Ext.refl _).grown g2 (own_low (World.ownsRow_nil w9 w9.heap.size 29 17))
               have HO3 := Lib.hid (show W2.ownsRow w9.heap.size 29 17 v2 q (rowsE (o.take q)).flatten by simpa using g1)
               have HRA2 := Lib.hid (HRAX.out W2 (HX8.out.trans hx3))
               have hx6 : Ext W2 (W2.alloc (.cells x.cells.toArray 29)) := (Ext.refl _).alloc _
               have HSN := Lib.hid (show Sv (W2.alloc (.cells x.cells.toArray 29)) (W2.alloc (.cells x.cells.toArray 29)).heap.size 17 (some ⟨W2.heap.size, 0, none⟩) 1 (rowsE [x]) from
                ⟨by simp [rowsE], by decide, rowsE_rwk _, fun _ => ⟨W2.heap.size, 0, rfl, by simp, fun j u hu => by
                  rw [Nat.zero_add, cell_of_row _ _ _ _ _ _ (heap_alloc_new W2 _)]
                  simpa [rowsE] using hu⟩⟩)
               have HO4 := Lib.hid (own_ext HO3.out hx6)
               have HX4 := Lib.hid (hx3.trans hx6)
               clear g1 g2 hx3 hx6
               go_upto_region 12 with (first
                | (with_reducible refine wpList_load_mid rfl 29 (.tmp 54) rfl bl (ol + k * 17) rfl x.cells _ HRA2.out Tryz.underlying29 rfl (by kernel_rfl) ?_)
                | (refine wpList_buildRow rfl 35 29 55 rfl 17 (by decide) (by decide) x.cells rfl rfl Tryz.underlying35 (by kernel_rfl) (by kernel_rfl) ?_)
                | (at_builtin; refine wpList_append_sv _ rfl (.tmp 51) (.tmp 56) 35 rfl w9.heap.size 29 i0 (.agg #[.int .i64 0, .int .i64 0, .int .i64 0, .int .i64 0, .int .i64 0, .int .i64 0, .int .i64 0, .int .i64 0, .int .i64 0, .int .i64 0, .int .i64 0, .int .i64 0, .int .i64 0, .int .i64 0, .int .i64 0, .int .i64 0, .int .i64 0]) 17 136 Tryz.underlying35 HI.out HZ.out HZ1.out HZ2.out rfl (by decide) _ q _ rfl HO4.out _ _ 1 1 (rowsE [x]) rfl HSN.out rfl (by unfold maxLen; omega) (by omega) HX4.out.size ?_; intro v6 W6 g1 g2 _))
               have HX6 := Lib.hid (HX4.out.own HO4.out g2 (Nat.le_refl _))
               have HO6 := Lib.hid g1
               clear g1 g2
               have HSD := Lib.hid (show Sv W6 W6.heap.size 17 (if c1 = q then (some ⟨bo, oo, none⟩) else Option.map (fun z : Addr => z.add (q * 17)) (some ⟨bo, oo, none⟩)) (c1 - q) (rowsE (o.drop q)) by rw [show rowsE (o.drop q) = (rowsE o).drop q by simp [rowsE]]; exact (HSW.out.ext HX6.out).drop (by rw [rowsE_length]; exact HQO.out))
               have HDL := Lib.hid (show (rowsE (o.drop q)).length = o.length - q by rw [rowsE_length, List.length_drop])
               go_wp2_with (first
                | (with_reducible refine wpList_slice_from rfl 35 29 (.tmp 59) (.tmp 60) rfl i0 17 Tryz.underlying35 HI.out HZ1.out (some ⟨bo, oo, none⟩) o.length c1 q rfl rfl HQO.out ?_)
                | (at_builtin; refine wpList_append_sv _ rfl (.tmp 58) (.tmp 61) 35 rfl w9.heap.size 29 i0 (.agg #[.int .i64 0, .int .i64 0, .int .i64 0, .int .i64 0, .int .i64 0, .int .i64 0, .int .i64 0, .int .i64 0, .int .i64 0, .int .i64 0, .int .i64 0, .int .i64 0, .int .i64 0, .int .i64 0, .int .i64 0, .int .i64 0, .int .i64 0]) 17 136 Tryz.underlying35 HI.out HZ.out HZ1.out HZ2.out rfl (by decide) _ (q + 1) _ rfl HO6.out W6.heap.size (if c1 = q then (some ⟨bo, oo, none⟩) else Option.map (fun z : Addr => z.add (q * 17)) (some ⟨bo, oo, none⟩)) (o.length - q) (c1 - q) (rowsE (o.drop q)) rfl HSD.out HDL.out (by unfold maxLen; omega) (by omega) HX6.out.size ?_; intro v7 W7 g1 g2 _))
               have HX7 := Lib.hid (HX6.out.own HO6.out g2 (Nat.le_refl _))
               have hol : (o.take q ++ (x :: o.drop q)).length = q + 1 + (o.length - q) := by rw [List.length_append, List.length_take, List.length_cons, List.length_drop]; omega
               have hor : (rowsE (o.take q ++ (x :: o.drop q))).flatten = (rowsE (o.take q)).flatten ++ (rowsE [x]).flatten ++ (rowsE (o.drop q)).flatten := by simp [rowsE]
               have HO7 := Lib.hid (show W7.ownsRow w9.heap.size 29 17 v7 (o.take q ++ (x :: o.drop q)).length (rowsE (o.take q ++ (x :: o.drop q))).flatten by rw [hol, hor]; exact g1)
               clear hor g1 g2
               generalize o.take q ++ (x :: o.drop q) = o2 at HO7 HIO2 hol
               obtain ⟨A7, c7, rfl, _⟩ := own_form HO7.out
               go_roundw
               case rel => exact ⟨k + 1, o2, A7, c7, by go_num, by omega, rfl, by omega, Sv.of_own HO7.out (rowsE_rwk o2) (rowsE_length o2), HIO2.out, HXW.out.trans HX7.out⟩
               case measure => simp [intOf]; omega
       · have hcm : cv < 0 := hlt9.2 hbe
         have HAT2 := Lib.hid (AtE.down (HPQ.out ▸ HAT.out) HYP.out hbe)
         clear hlt9 hbe
         go_upto_region 6 with fail
         refine wp_region_val [some (.int .i64 (q : Int)), some (.bool true), some (.bool true), some (.slice (some ⟨bl, ol, none⟩) l.length c), some (.int .i64 (k : Int)), some (.pointer (some ⟨bl, ol + k * 17, none⟩)), some (.agg x.cells.toArray), some (.slice (some ⟨bo, oo, none⟩) o.length c1), some (.int .i64 (q : Int)), some (.int .i64 (p : Int)), some (.pointer (some ⟨bo, oo + p * 17, none⟩)), some (.agg y.cells.toArray), some (.int .i64 cv), some (.bool true), some (.bool true)] hm (by kernel_rfl) (by kernel_rfl) rfl ?_ ?_ rfl rfl
         · refine c_ s_mv ?_
           refine c_ (s_run1 15 (hr := fun b w1 _ e => by unfold execOp; simp [e, Act.eval, go_sem, hq0])) ?_
           refine c_ s_mv ?_
           refine c_ s_mv ?_
           refine c_ s_mv ?_
           refine c_ (s_run2 18 19 (hr := fun b w1 _ e f => by unfold execOp; simp [e, f, Act.eval, go_sem, hk0, hk1])) ?_
           refine c_ (s_mid (bk := bl) (off := ol + k * 17) (fun w1 hx => HRX.out _ hx) Tryz.underlying29) ?_
           refine c_ s_mv ?_
           refine c_ s_mv ?_
           refine c_ (s_run1 23 (hr := fun b w1 _ e => by unfold execOp; simp [e, Act.eval, go_sem, hqp])) ?_
           refine c_ (s_run2 22 24 (hr := fun b w1 _ e f => by unfold execOp; simp [e, f, Act.eval, go_sem, hpl, hp0])) ?_
           refine c_ (s_mid (bk := bo) (off := oo + p * 17) (fun w1 hx => HRY.out _ hx) Tryz.underlying29) ?_
           refine c_ (s_call fun w1 hx => HC.out w1) ?_
           refine c_ (s_run1 27 (hr := fun b w1 _ e => by unfold execOp; simp [e, Act.eval, go_sem, hcm])) ?_
           refine c_ (s_run2 17 28 (hr := fun b w1 _ e f => by unfold execOp; simp [e, f, Act.eval, go_sem])) ?_
           exact trivial
         · intro w9 hx
           simp only [fillM, Act.put, List.getElem?_cons_zero, List.getElem?_cons_succ, Option.join_some, Option.getD_some, List.setIfInBounds_toArray, List.set_cons_zero, List.set_cons_succ, Nat.zero_add, Nat.reduceAdd]
           have HX6 := Lib.hid (HXQ.out.trans hx)
           clear hx hcm
           go_wp2_with fail
           go_roundw
           case rel => exact ⟨p, rfl, HAT2.out, HX6.out⟩
           case measure => have := HPQ.out; simp [intOf]; omega
  · obtain rfl : k = l.length := by omega
    rw [List.take_length] at HIO
    go_wp2_with fail
    go_ret
    exact ⟨o, HIO.out, A1, c1, rfl, HO.out, HX.out⟩
end Go.Proofs.YtlinhgannajfpaaGreatDoor

/- Sorted and Same of edits, as the laws want them. -/
namespace Go.Proofs.YtlinhgannajfpaaGreatDoor
open Go Go.RowKit

theorem own_svE {w : World} {base : Nat} {v : Value} {l : List Ed} (h : w.ownsRow base 29 17 v l.length (rowsE l).flatten) : ∃ A c, v = .slice A l.length c ∧ Sv w w.heap.size 17 A c (rowsE l) := by
 obtain ⟨A, c, rfl, _⟩ := own_form h
 exact ⟨A, c, rfl, Sv.of_own h (rowsE_rwk _) (by rw [rowsE_length])⟩
theorem sameE_true (l m1 m2 : List Ed) (h1 : IsOrd l m1) (h2 : IsOrd l m2) (A A2 : Option Addr) (c c2 : Nat) (w : World) (hs : Sv w w.heap.size 17 A c (rowsE m1)) (hs2 : Sv w w.heap.size 17 A2 c2 (rowsE m2)) (hl : l.length ≤ 1000000) :
    Calls Tryz.prog 21 #[.slice A m1.length c, .slice A2 m2.length c2] w fun e w' => e = .returned (.bool true) ∧ Ext w w' := by
 have h := refSame25_any A A2 c c2 m1 m2 w hs hs2 (by have := h1.len; omega)
 rw [decide_eq_true (h1.uniq h2)] at h
 exact h
theorem sameB_true (b : List UInt8) (A A2 : Option Addr) (c c2 : Nat) (w : World) (hs : Sv w w.heap.size 1 A c (rowsB b)) (hs2 : Sv w w.heap.size 1 A2 c2 (rowsB b)) :
    Calls Tryz.prog 24 #[.slice A b.length c, .slice A2 b.length c2] w fun e w' => e = .returned (.bool true) ∧ Ext w w' := by
 have h := refSameB_any b b A A2 c c2 w hs hs2
 rw [beq_self_eq_true] at h
 exact h
end Go.Proofs.YtlinhgannajfpaaGreatDoor

/- EditMatchesSpec. -/
namespace Go.Proofs.YtlinhgannajfpaaGreatDoor
open Go Go.RowKit

theorem neqBx_same (b : Bx) (w : World) : (binOp .neq 27 (.agg #[.int .i64 b.lo.x, .int .i64 b.lo.y, .int .i64 b.lo.z, .int .i64 b.hi.x, .int .i64 b.hi.y, .int .i64 b.hi.z]) (.agg #[.int .i64 b.lo.x, .int .i64 b.lo.y, .int .i64 b.lo.z, .int .i64 b.hi.x, .int .i64 b.hi.y, .int .i64 b.hi.z])).run Tryz.prog w = .ok (.bool false) w := by
 obtain ⟨⟨a4, a5, a6⟩, ⟨a7, a8, a9⟩⟩ := b
 simp [go_sem]
set_option maxRecDepth 100000 in
set_option maxHeartbeats 16000000 in
theorem EditMatchesSpec_any (x y : Ed) (hx : FitE x) (hfx : fits x) (l : List Ed) (A : Option Addr) (c : Nat) (n : Int) (w : World) (hs : Sv w w.heap.size 17 A c (rowsE l)) (hR : EnvI w) :
    Calls Tryz.prog 4 #[.agg #[.int .i64 x.st.tick, .int .i64 x.st.clock, .int .i64 x.st.site, .int .i64 x.st.seq, .int .i64 x.kind, .int .i64 x.box.lo.x, .int .i64 x.box.lo.y, .int .i64 x.box.lo.z, .int .i64 x.box.hi.x, .int .i64 x.box.hi.y, .int .i64 x.box.hi.z, .int .i64 x.at_.x, .int .i64 x.at_.y, .int .i64 x.at_.z, .int .i64 x.turn, .int .i64 x.cell, .int .i64 x.size], .agg #[.int .i64 y.st.tick, .int .i64 y.st.clock, .int .i64 y.st.site, .int .i64 y.st.seq, .int .i64 y.kind, .int .i64 y.box.lo.x, .int .i64 y.box.lo.y, .int .i64 y.box.lo.z, .int .i64 y.box.hi.x, .int .i64 y.box.hi.y, .int .i64 y.box.hi.z, .int .i64 y.at_.x, .int .i64 y.at_.y, .int .i64 y.at_.z, .int .i64 y.turn, .int .i64 y.cell, .int .i64 y.size], .slice A l.length c, .int .i64 n] w fun e w' => e = .returned (.bool true) ∧ Ext w w' := by
 have hm := mixed
 have HR := Lib.hid hR
 have HS := Lib.hid hs
 have HFx := Lib.hid hx
 clear hR hs
 obtain ⟨W0, hW⟩ : ∃ W, W = (w.alloc (.cells #[.int .i64 x.st.tick, .int .i64 x.st.clock, .int .i64 x.st.site, .int .i64 x.st.seq, .int .i64 x.kind, .int .i64 x.box.lo.x, .int .i64 x.box.lo.y, .int .i64 x.box.lo.z, .int .i64 x.box.hi.x, .int .i64 x.box.hi.y, .int .i64 x.box.hi.z, .int .i64 x.at_.x, .int .i64 x.at_.y, .int .i64 x.at_.z, .int .i64 x.turn, .int .i64 x.cell, .int .i64 x.size] 29)).alloc (.cells #[.int .i64 y.st.tick, .int .i64 y.st.clock, .int .i64 y.st.site, .int .i64 y.st.seq, .int .i64 y.kind, .int .i64 y.box.lo.x, .int .i64 y.box.lo.y, .int .i64 y.box.lo.z, .int .i64 y.box.hi.x, .int .i64 y.box.hi.y, .int .i64 y.box.hi.z, .int .i64 y.at_.x, .int .i64 y.at_.y, .int .i64 y.at_.z, .int .i64 y.turn, .int .i64 y.cell, .int .i64 y.size] 29) := ⟨_, rfl⟩
 have HXl := Lib.hid (show Ext w W0 by rw [hW]; exact ((Ext.refl w).alloc _).alloc _)
 have HBx := Lib.hid (show Arr W0 w.heap.size 29 [.int .i64 x.st.tick, .int .i64 x.st.clock, .int .i64 x.st.site, .int .i64 x.st.seq, .int .i64 x.kind, .int .i64 x.box.lo.x, .int .i64 x.box.lo.y, .int .i64 x.box.lo.z, .int .i64 x.box.hi.x, .int .i64 x.box.hi.y, .int .i64 x.box.hi.z, .int .i64 x.at_.x, .int .i64 x.at_.y, .int .i64 x.at_.z, .int .i64 x.turn, .int .i64 x.cell, .int .i64 x.size] by rw [hW]; exact (Arr.new w _ _).alloc _)
 have HBy := Lib.hid (show Arr W0 (w.heap.size + 1) 29 [.int .i64 y.st.tick, .int .i64 y.st.clock, .int .i64 y.st.site, .int .i64 y.st.seq, .int .i64 y.kind, .int .i64 y.box.lo.x, .int .i64 y.box.lo.y, .int .i64 y.box.lo.z, .int .i64 y.box.hi.x, .int .i64 y.box.hi.y, .int .i64 y.box.hi.z, .int .i64 y.at_.x, .int .i64 y.at_.y, .int .i64 y.at_.z, .int .i64 y.turn, .int .i64 y.cell, .int .i64 y.size] by rw [hW]; exact Arr.new1 w _ _ [.int .i64 y.st.tick, .int .i64 y.st.clock, .int .i64 y.st.site, .int .i64 y.st.seq, .int .i64 y.kind, .int .i64 y.box.lo.x, .int .i64 y.box.lo.y, .int .i64 y.box.lo.z, .int .i64 y.box.hi.x, .int .i64 y.box.hi.y, .int .i64 y.box.hi.z, .int .i64 y.at_.x, .int .i64 y.at_.y, .int .i64 y.at_.z, .int .i64 y.turn, .int .i64 y.cell, .int .i64 y.size])
 by_cases hl : 40 < (l.length : Int)
 · go_enter Tryz.func4, Tryz.ntmps4
   go_upto_region 1 with fail
   rw [← hW]
   clear hW
   go_wp2_with (go_at_call 10; refine (sanity_any _ (HR.out.ext HXl.out)).mono ?_; rintro e W1 ⟨rfl, hx1⟩)
   go_ret
   exact ⟨rfl, HXl.out.trans hx1⟩
 obtain ⟨ck, hck⟩ : ∃ ck, checkE x n 256 = ck := ⟨_, rfl⟩
 have HC := Lib.hid (show ∀ W : World, Calls Tryz.prog 12 #[.agg #[.int .i64 x.st.tick, .int .i64 x.st.clock, .int .i64 x.st.site, .int .i64 x.st.seq, .int .i64 x.kind, .int .i64 x.box.lo.x, .int .i64 x.box.lo.y, .int .i64 x.box.lo.z, .int .i64 x.box.hi.x, .int .i64 x.box.hi.y, .int .i64 x.box.hi.z, .int .i64 x.at_.x, .int .i64 x.at_.y, .int .i64 x.at_.z, .int .i64 x.turn, .int .i64 x.cell, .int .i64 x.size], .int .i64 n, .int .i64 256] W fun e w' => e = .returned (.int .i64 ck) ∧ Ext W w' by rw [← hck, ← check_eq x n 256 hfx]; exact refCheck_any x n 256)
 have HB1 := Lib.hid (fun (h : ck = 0) (W : World) (hx : Ext w W) => Bounds_any x n (chk_ok hfx (hck.trans h)) W (HR.out.ext hx).A)
 have HB2 := Lib.hid (fun (h : ck = 0) (W : World) => refBounds_any x n (chk_ok hfx (hck.trans h)) W)
 obtain ⟨rb, hrb⟩ : ∃ rb, boundsE x n = rb := ⟨_, rfl⟩
 rw [hrb] at HB1 HB2
 have hne := neqBx_same rb
 have HCM := Lib.hid (fun (W : World) => (show Calls Tryz.prog 19 #[.agg #[.int .i64 x.st.tick, .int .i64 x.st.clock, .int .i64 x.st.site, .int .i64 x.st.seq, .int .i64 x.kind, .int .i64 x.box.lo.x, .int .i64 x.box.lo.y, .int .i64 x.box.lo.z, .int .i64 x.box.hi.x, .int .i64 x.box.hi.y, .int .i64 x.box.hi.z, .int .i64 x.at_.x, .int .i64 x.at_.y, .int .i64 x.at_.z, .int .i64 x.turn, .int .i64 x.cell, .int .i64 x.size], .agg #[.int .i64 y.st.tick, .int .i64 y.st.clock, .int .i64 y.st.site, .int .i64 y.st.seq, .int .i64 y.kind, .int .i64 y.box.lo.x, .int .i64 y.box.lo.y, .int .i64 y.box.lo.z, .int .i64 y.box.hi.x, .int .i64 y.box.hi.y, .int .i64 y.box.hi.z, .int .i64 y.at_.x, .int .i64 y.at_.y, .int .i64 y.at_.z, .int .i64 y.turn, .int .i64 y.cell, .int .i64 y.size]] W fun e w' => e = .returned (.int .i64 (cmpV (numsE x) (numsE y))) ∧ Ext W w' from (CompareEd_any x y W).mono fun e w' ⟨h1, h2⟩ => ⟨h1, h2.ext⟩))
 have HCR := Lib.hid (fun (W : World) => (show Calls Tryz.prog 20 #[.agg #[.int .i64 x.st.tick, .int .i64 x.st.clock, .int .i64 x.st.site, .int .i64 x.st.seq, .int .i64 x.kind, .int .i64 x.box.lo.x, .int .i64 x.box.lo.y, .int .i64 x.box.lo.z, .int .i64 x.box.hi.x, .int .i64 x.box.hi.y, .int .i64 x.box.hi.z, .int .i64 x.at_.x, .int .i64 x.at_.y, .int .i64 x.at_.z, .int .i64 x.turn, .int .i64 x.cell, .int .i64 x.size], .agg #[.int .i64 y.st.tick, .int .i64 y.st.clock, .int .i64 y.st.site, .int .i64 y.st.seq, .int .i64 y.kind, .int .i64 y.box.lo.x, .int .i64 y.box.lo.y, .int .i64 y.box.lo.z, .int .i64 y.box.hi.x, .int .i64 y.box.hi.y, .int .i64 y.box.hi.z, .int .i64 y.at_.x, .int .i64 y.at_.y, .int .i64 y.at_.z, .int .i64 y.turn, .int .i64 y.cell, .int .i64 y.size]] W fun e w' => e = .returned (.int .i64 (cmpV (numsE x) (numsE y))) ∧ Ext W w' from refCompare_any x y W))
 obtain ⟨cz, hcz⟩ : ∃ cz, cmpV (numsE x) (numsE y) = cz := ⟨_, rfl⟩
 rw [hcz] at HCM HCR
 have HS1 := Lib.hid (fun (W : World) (hx : Ext w W) => SortedEd_any A c l W (HS.out.ext hx) (by omega))
 have HS2 := Lib.hid (fun (W : World) (hx : Ext w W) => refSorted_any A c l W (HS.out.ext hx) (by omega))
 obtain ⟨nm, hnm⟩ : ∃ nm, kindN n = nm := ⟨_, rfl⟩
 have HN1 := Lib.hid (fun (W : World) (hx : Ext w W) => Name_any n W (HR.out.ext hx).N)
 have HN2 := Lib.hid (fun (W : World) => refName_any n W)
 rw [hnm] at HN1 HN2
 obtain ⟨dg, hdg0⟩ : ∃ dg, digE x = dg := ⟨_, rfl⟩
 have hdg := eqDg_run (digE x) (digE_len x)
 have HD1 := Lib.hid (fun (W : World) (h : Ext w W) => DigEd_any x hx W (HR.out.ext h).H)
 have HD2 := Lib.hid (fun (W : World) (h : Ext w W) => refDig_any x hx W (HR.out.ext h).K)
 rw [hdg0] at hdg HD1 HD2
 have hsz := hl
 clear hck hrb hcz hnm hdg0 hfx
 go_enter Tryz.func4, Tryz.ntmps4
 go_upto_region 1 with fail
 rw [← hW]
 clear hW
 go_upto_region 3 with fail
 clear hx hsz
 by_cases h0 : ck = 0
 · subst h0
   refine wp_region_val [some (.agg #[.int .i64 x.st.tick, .int .i64 x.st.clock, .int .i64 x.st.site, .int .i64 x.st.seq, .int .i64 x.kind, .int .i64 x.box.lo.x, .int .i64 x.box.lo.y, .int .i64 x.box.lo.z, .int .i64 x.box.hi.x, .int .i64 x.box.hi.y, .int .i64 x.box.hi.z, .int .i64 x.at_.x, .int .i64 x.at_.y, .int .i64 x.at_.z, .int .i64 x.turn, .int .i64 x.cell, .int .i64 x.size]), some (.int .i64 n), some (.int .i64 0), some (.bool true), some (.bool true), some (.agg #[.int .i64 x.st.tick, .int .i64 x.st.clock, .int .i64 x.st.site, .int .i64 x.st.seq, .int .i64 x.kind, .int .i64 x.box.lo.x, .int .i64 x.box.lo.y, .int .i64 x.box.lo.z, .int .i64 x.box.hi.x, .int .i64 x.box.hi.y, .int .i64 x.box.hi.z, .int .i64 x.at_.x, .int .i64 x.at_.y, .int .i64 x.at_.z, .int .i64 x.turn, .int .i64 x.cell, .int .i64 x.size]), some (.int .i64 n), some (.agg #[.int .i64 rb.lo.x, .int .i64 rb.lo.y, .int .i64 rb.lo.z, .int .i64 rb.hi.x, .int .i64 rb.hi.y, .int .i64 rb.hi.z]), some (.agg #[.int .i64 x.st.tick, .int .i64 x.st.clock, .int .i64 x.st.site, .int .i64 x.st.seq, .int .i64 x.kind, .int .i64 x.box.lo.x, .int .i64 x.box.lo.y, .int .i64 x.box.lo.z, .int .i64 x.box.hi.x, .int .i64 x.box.hi.y, .int .i64 x.box.hi.z, .int .i64 x.at_.x, .int .i64 x.at_.y, .int .i64 x.at_.z, .int .i64 x.turn, .int .i64 x.cell, .int .i64 x.size]), some (.int .i64 n), some (.agg #[.int .i64 rb.lo.x, .int .i64 rb.lo.y, .int .i64 rb.lo.z, .int .i64 rb.hi.x, .int .i64 rb.hi.y, .int .i64 rb.hi.z]), some (.bool false), some (.bool false)] hm (by kernel_rfl) (by kernel_rfl) rfl ?_ ?_ rfl rfl
   · refine c_ (s_row HBx Tryz.underlying29) ?_
     refine c_ s_mv ?_
     refine c_ (s_call fun w1 hx => HC.out w1) ?_
     refine c_ (s_run1 15 (hr := fun b w1 _ e => by unfold execOp; simp [e, Act.eval, go_sem])) ?_
     refine c_ s_mv ?_
     refine c_ (s_row HBx Tryz.underlying29) ?_
     refine c_ s_mv ?_
     refine c_ (s_call fun w1 hx => HB1.out rfl w1 (HXl.out.trans hx)) ?_
     refine c_ (s_row HBx Tryz.underlying29) ?_
     refine c_ s_mv ?_
     refine c_ (s_call fun w1 hx => HB2.out rfl w1) ?_
     refine c_ (s_run2 20 23 (hr := fun b w1 _ e f => by unfold execOp; simp [e, f, Act.eval, go_sem, hne])) ?_
     refine c_ (s_run2 17 24 (hr := fun b w1 _ e f => by unfold execOp; simp [e, f, Act.eval, go_sem])) ?_
     exact trivial
   · intro w9 hx
     simp only [fillM, Act.put, List.getElem?_cons_zero, List.getElem?_cons_succ, Option.join_some, Option.getD_some, List.setIfInBounds_toArray, List.set_cons_zero, List.set_cons_succ, Nat.zero_add, Nat.reduceAdd]
     go_upto_region 5 with fail
     have HX3 := Lib.hid hx
     have HBx := Lib.hid (HBx.out.ext hx)
     have HBy := Lib.hid (HBy.out.ext hx)
     have HXl := Lib.hid (HXl.out.trans hx)
     clear hx
     have HL := Lib.hid (show l.length ≤ 1000000 by omega)
     refine wp_region_mix [some (.bool true), some (.bool true), some (.int .i64 n), some (strV nm), some (.int .i64 n), some (strV nm), some (.bool true), some (.bool true), some (.bool true), some (.agg #[.int .i64 x.st.tick, .int .i64 x.st.clock, .int .i64 x.st.site, .int .i64 x.st.seq, .int .i64 x.kind, .int .i64 x.box.lo.x, .int .i64 x.box.lo.y, .int .i64 x.box.lo.z, .int .i64 x.box.hi.x, .int .i64 x.box.hi.y, .int .i64 x.box.hi.z, .int .i64 x.at_.x, .int .i64 x.at_.y, .int .i64 x.at_.z, .int .i64 x.turn, .int .i64 x.cell, .int .i64 x.size]), some (.agg #[.int .i64 y.st.tick, .int .i64 y.st.clock, .int .i64 y.st.site, .int .i64 y.st.seq, .int .i64 y.kind, .int .i64 y.box.lo.x, .int .i64 y.box.lo.y, .int .i64 y.box.lo.z, .int .i64 y.box.hi.x, .int .i64 y.box.hi.y, .int .i64 y.box.hi.z, .int .i64 y.at_.x, .int .i64 y.at_.y, .int .i64 y.at_.z, .int .i64 y.turn, .int .i64 y.cell, .int .i64 y.size]), some (.int .i64 cz), some (.agg #[.int .i64 x.st.tick, .int .i64 x.st.clock, .int .i64 x.st.site, .int .i64 x.st.seq, .int .i64 x.kind, .int .i64 x.box.lo.x, .int .i64 x.box.lo.y, .int .i64 x.box.lo.z, .int .i64 x.box.hi.x, .int .i64 x.box.hi.y, .int .i64 x.box.hi.z, .int .i64 x.at_.x, .int .i64 x.at_.y, .int .i64 x.at_.z, .int .i64 x.turn, .int .i64 x.cell, .int .i64 x.size]), some (.agg #[.int .i64 y.st.tick, .int .i64 y.st.clock, .int .i64 y.st.site, .int .i64 y.st.seq, .int .i64 y.kind, .int .i64 y.box.lo.x, .int .i64 y.box.lo.y, .int .i64 y.box.lo.z, .int .i64 y.box.hi.x, .int .i64 y.box.hi.y, .int .i64 y.box.hi.z, .int .i64 y.at_.x, .int .i64 y.at_.y, .int .i64 y.at_.z, .int .i64 y.turn, .int .i64 y.cell, .int .i64 y.size]), some (.int .i64 cz), some (.bool true), some (.bool true), some (.bool true), some (.slice A l.length c), none, some (.slice A l.length c), none, some (.bool true), some (.bool true), some (.bool true), some (.agg #[.int .i64 x.st.tick, .int .i64 x.st.clock, .int .i64 x.st.site, .int .i64 x.st.seq, .int .i64 x.kind, .int .i64 x.box.lo.x, .int .i64 x.box.lo.y, .int .i64 x.box.lo.z, .int .i64 x.box.hi.x, .int .i64 x.box.hi.y, .int .i64 x.box.hi.z, .int .i64 x.at_.x, .int .i64 x.at_.y, .int .i64 x.at_.z, .int .i64 x.turn, .int .i64 x.cell, .int .i64 x.size]), none, some (.agg #[.int .i64 x.st.tick, .int .i64 x.st.clock, .int .i64 x.st.site, .int .i64 x.st.seq, .int .i64 x.kind, .int .i64 x.box.lo.x, .int .i64 x.box.lo.y, .int .i64 x.box.lo.z, .int .i64 x.box.hi.x, .int .i64 x.box.hi.y, .int .i64 x.box.hi.z, .int .i64 x.at_.x, .int .i64 x.at_.y, .int .i64 x.at_.z, .int .i64 x.turn, .int .i64 x.cell, .int .i64 x.size]), none, some (.bool true), some (.bool true), some (.bool true), some (.agg #[.int .i64 x.st.tick, .int .i64 x.st.clock, .int .i64 x.st.site, .int .i64 x.st.seq, .int .i64 x.kind, .int .i64 x.box.lo.x, .int .i64 x.box.lo.y, .int .i64 x.box.lo.z, .int .i64 x.box.hi.x, .int .i64 x.box.hi.y, .int .i64 x.box.hi.z, .int .i64 x.at_.x, .int .i64 x.at_.y, .int .i64 x.at_.z, .int .i64 x.turn, .int .i64 x.cell, .int .i64 x.size]), some (.agg (bvs dg).toArray), some (.agg #[.int .i64 x.st.tick, .int .i64 x.st.clock, .int .i64 x.st.site, .int .i64 x.st.seq, .int .i64 x.kind, .int .i64 x.box.lo.x, .int .i64 x.box.lo.y, .int .i64 x.box.lo.z, .int .i64 x.box.hi.x, .int .i64 x.box.hi.y, .int .i64 x.box.hi.z, .int .i64 x.at_.x, .int .i64 x.at_.y, .int .i64 x.at_.z, .int .i64 x.turn, .int .i64 x.cell, .int .i64 x.size]), some (.agg (bvs dg).toArray), some (.bool true), some (.bool true), some (.bool true)] (fun i v w' => if i = 19 then (∃ m7 A7 c7, IsOrd l m7 ∧ v = .slice A7 m7.length c7 ∧ Sv w' w'.heap.size 17 A7 c7 (rowsE m7)) else (if i = 21 then (∃ m7 A7 c7, IsOrd l m7 ∧ v = .slice A7 m7.length c7 ∧ Sv w' w'.heap.size 17 A7 c7 (rowsE m7)) else (if i = 26 then (∃ A7 c7, v = .slice A7 (encE x).length c7 ∧ Sv w' w'.heap.size 1 A7 c7 (rowsB (encE x))) else (if i = 28 then (∃ A7 c7, v = .slice A7 (encE x).length c7 ∧ Sv w' w'.heap.size 1 A7 c7 (rowsB (encE x))) else (True))))) hm (by kernel_rfl) (by kernel_rfl) rfl ?_ ?_ ?_
     · exact g_if (fun v w1 w2 hx h => (fun ⟨m7, A7, c7, h0, h1, h2⟩ => ⟨m7, A7, c7, h0, h1, h2.ext hx⟩) h) (g_if (fun v w1 w2 hx h => (fun ⟨m7, A7, c7, h0, h1, h2⟩ => ⟨m7, A7, c7, h0, h1, h2.ext hx⟩) h) (g_if (fun v w1 w2 hx h => (fun ⟨A7, c7, h1, h2⟩ => ⟨A7, c7, h1, h2.ext hx⟩) h) (g_if (fun v w1 w2 hx h => (fun ⟨A7, c7, h1, h2⟩ => ⟨A7, c7, h1, h2.ext hx⟩) h) (g_true))))
     · refine c_ (s_call fun w1 hx => sanity_any w1 (HR.out.ext (HXl.out.trans hx))) ?_
       refine c_ s_mv ?_
       refine c_ s_mv ?_
       refine c_ (s_call fun w1 hx => HN1.out w1 (HXl.out.trans hx)) ?_
       refine c_ s_mv ?_
       refine c_ (s_call fun w1 hx => HN2.out w1) ?_
       refine c_ (s_run2 29 31 (hr := fun b w1 _ e f => by unfold execOp; simp [e, f, Act.eval, go_sem, strV])) ?_
       refine c_ (s_run2 27 32 (hr := fun b w1 _ e f => by unfold execOp; simp [e, f, Act.eval, go_sem])) ?_
       refine c_ s_mv ?_
       refine c_ (s_row HBx Tryz.underlying29) ?_
       refine c_ (s_row HBy Tryz.underlying29) ?_
       refine c_ (s_call fun w1 hx => HCM.out w1) ?_
       refine c_ (s_row HBx Tryz.underlying29) ?_
       refine c_ (s_row HBy Tryz.underlying29) ?_
       refine c_ (s_call fun w1 hx => HCR.out w1) ?_
       refine c_ (s_run2 37 40 (hr := fun b w1 _ e f => by unfold execOp; simp [e, f, Act.eval, go_sem])) ?_
       refine c_ (s_run2 34 41 (hr := fun b w1 _ e f => by unfold execOp; simp [e, f, Act.eval, go_sem])) ?_
       refine c_ s_mv ?_
       refine c_ s_mv ?_
       refine c_ (s_callG fun w1 hx => (show Calls Tryz.prog 22 _ w1 fun e w' => ∃ v, e = .returned v ∧ Ext w1 w' ∧ (∃ m7 A7 c7, IsOrd l m7 ∧ v = .slice A7 m7.length c7 ∧ Sv w' w'.heap.size 17 A7 c7 (rowsE m7)) from (HS1.out w1 (HXl.out.trans hx)).mono fun e w2 ⟨m7, v7, h0, h1, h2, h3⟩ => by obtain ⟨A7, c7, rfl, h4⟩ := own_svE h2; exact ⟨_, h1, h3, m7, A7, c7, h0, rfl, h4⟩).mono fun e w' ⟨v, h1, h2, h3⟩ => ⟨v, h1, h2, h3⟩) ?_
       refine c_ s_mv ?_
       refine c_ (s_callG fun w1 hx => (show Calls Tryz.prog 23 _ w1 fun e w' => ∃ v, e = .returned v ∧ Ext w1 w' ∧ (∃ m7 A7 c7, IsOrd l m7 ∧ v = .slice A7 m7.length c7 ∧ Sv w' w'.heap.size 17 A7 c7 (rowsE m7)) from (HS2.out w1 (HXl.out.trans hx)).mono fun e w2 ⟨m7, h0, A7, c7, h1, h2, h3⟩ => ⟨_, h1, h3, m7, A7, c7, h0, rfl, h2⟩).mono fun e w' ⟨v, h1, h2, h3⟩ => ⟨v, h1, h2, h3⟩) ?_
       refine c_ (s_by (.inr ⟨_, _, _, rfl, rfl, rfl, rfl⟩) fun b w1 h K hK => ?_) ?_
       · have hx := h.ext
         replace hK : ∀ v w', Ext w1 w' → (v = .bool true) → K (b.put (some 48) v) w' := fun v w' h1 h2 => (by subst h2; exact hK _ w' h1 (GdM.val rfl w'))
         obtain ⟨v45, g45, e45⟩ := h.dep 19 rfl
         have g45 : ∃ m7 A7 c7, IsOrd l m7 ∧ v45 = .slice A7 m7.length c7 ∧ Sv w1 w1.heap.size 17 A7 c7 (rowsE m7) := g45
         obtain ⟨m1, A1, c1, hmm1, rfl, hS1⟩ := g45
         have e45 := e45 45 rfl
         obtain ⟨v47, g47, e47⟩ := h.dep 21 rfl
         have g47 : ∃ m7 A7 c7, IsOrd l m7 ∧ v47 = .slice A7 m7.length c7 ∧ Sv w1 w1.heap.size 17 A7 c7 (rowsE m7) := g47
         obtain ⟨m2, A2, c2, hmm2, rfl, hS2⟩ := g47
         have e47 := e47 47 rfl
         have hc : Calls Tryz.prog 21 #[.slice A1 m1.length c1, .slice A2 m2.length c2] w1 fun e w' => ∃ v, e = .returned v ∧ Ext w1 w' ∧ (v = .bool true) := (sameE_true l m1 m2 hmm1 hmm2 A1 A2 c1 c2 w1 hS1 hS2 HL.out).mono fun e w2 ⟨h1, h2⟩ => ⟨_, h1, h2, rfl⟩
         exact op_call (G := fun v w' => v = .bool true) rfl (by simp [eval_of e45, eval_of e47]) (fun _ _ => by kernel_rfl) hc (fun v w' h1 h2 => hK v w' h1 h2)
       refine c_ (s_run2 43 48 (hr := fun b w1 _ e f => by unfold execOp; simp [e, f, Act.eval, go_sem])) ?_
       refine c_ s_mv ?_
       refine c_ (s_row HBx Tryz.underlying29) ?_
       refine c_ (s_callG fun w1 hx => (show Calls Tryz.prog 25 _ w1 fun e w' => ∃ v, e = .returned v ∧ Ext w1 w' ∧ (∃ A7 c7, v = .slice A7 (encE x).length c7 ∧ Sv w' w'.heap.size 1 A7 c7 (rowsB (encE x))) from (EncEd_any x HFx.out w1).mono fun e w2 ⟨A7, c7, h1, h2, h3⟩ => ⟨_, h1, h3, A7, c7, rfl, own_sv_B h2 rfl⟩).mono fun e w' ⟨v, h1, h2, h3⟩ => ⟨v, h1, h2, h3⟩) ?_
       refine c_ (s_row HBx Tryz.underlying29) ?_
       refine c_ (s_callG fun w1 hx => (show Calls Tryz.prog 26 _ w1 fun e w' => ∃ v, e = .returned v ∧ Ext w1 w' ∧ (∃ A7 c7, v = .slice A7 (encE x).length c7 ∧ Sv w' w'.heap.size 1 A7 c7 (rowsB (encE x))) from (refEnc_any x HFx.out w1).mono fun e w2 ⟨A7, c7, h1, h2, h3⟩ => ⟨_, h1, h3, A7, c7, rfl, own_sv_B h2 rfl⟩).mono fun e w' ⟨v, h1, h2, h3⟩ => ⟨v, h1, h2, h3⟩) ?_
       refine c_ (s_by (.inr ⟨_, _, _, rfl, rfl, rfl, rfl⟩) fun b w1 h K hK => ?_) ?_
       · have hx := h.ext
         replace hK : ∀ v w', Ext w1 w' → (v = .bool true) → K (b.put (some 55) v) w' := fun v w' h1 h2 => (by subst h2; exact hK _ w' h1 (GdM.val rfl w'))
         obtain ⟨v52, g52, e52⟩ := h.dep 26 rfl
         have g52 : ∃ A7 c7, v52 = .slice A7 (encE x).length c7 ∧ Sv w1 w1.heap.size 1 A7 c7 (rowsB (encE x)) := g52
         obtain ⟨A8, c8, rfl, hS8⟩ := g52
         have e52 := e52 52 rfl
         obtain ⟨v54, g54, e54⟩ := h.dep 28 rfl
         have g54 : ∃ A7 c7, v54 = .slice A7 (encE x).length c7 ∧ Sv w1 w1.heap.size 1 A7 c7 (rowsB (encE x)) := g54
         obtain ⟨A9, c9, rfl, hS9⟩ := g54
         have e54 := e54 54 rfl
         have hc : Calls Tryz.prog 24 #[.slice A8 (encE x).length c8, .slice A9 (encE x).length c9] w1 fun e w' => ∃ v, e = .returned v ∧ Ext w1 w' ∧ (v = .bool true) := (sameB_true (encE x) A8 A9 c8 c9 w1 hS8 hS9).mono fun e w2 ⟨h1, h2⟩ => ⟨_, h1, h2, rfl⟩
         exact op_call (G := fun v w' => v = .bool true) rfl (by simp [eval_of e52, eval_of e54]) (fun _ _ => by kernel_rfl) hc (fun v w' h1 h2 => hK v w' h1 h2)
       refine c_ (s_run2 50 55 (hr := fun b w1 _ e f => by unfold execOp; simp [e, f, Act.eval, go_sem])) ?_
       refine c_ s_mv ?_
       refine c_ (s_row HBx Tryz.underlying29) ?_
       refine c_ (s_call fun w1 hx => HD1.out w1 (HXl.out.trans hx)) ?_
       refine c_ (s_row HBx Tryz.underlying29) ?_
       refine c_ (s_call fun w1 hx => HD2.out w1 (HXl.out.trans hx)) ?_
       refine c_ (s_run2 59 61 (hr := fun b w1 _ e f => by unfold execOp; simp [e, f, Act.eval, go_sem, hdg])) ?_
       refine c_ (s_run2 57 62 (hr := fun b w1 _ e f => by unfold execOp; simp [e, f, Act.eval, go_sem])) ?_
       refine c_ s_mv ?_
       exact trivial
     · intro U w9 hx hg
       have g19 : ∃ m7 A7 c7, IsOrd l m7 ∧ U 19 = .slice A7 m7.length c7 ∧ Sv w9 w9.heap.size 17 A7 c7 (rowsE m7) := hg 19 (by decide) rfl
       have g21 : ∃ m7 A7 c7, IsOrd l m7 ∧ U 21 = .slice A7 m7.length c7 ∧ Sv w9 w9.heap.size 17 A7 c7 (rowsE m7) := hg 21 (by decide) rfl
       have g26 : ∃ A7 c7, U 26 = .slice A7 (encE x).length c7 ∧ Sv w9 w9.heap.size 1 A7 c7 (rowsB (encE x)) := hg 26 (by decide) rfl
       have g28 : ∃ A7 c7, U 28 = .slice A7 (encE x).length c7 ∧ Sv w9 w9.heap.size 1 A7 c7 (rowsB (encE x)) := hg 28 (by decide) rfl
       simp only [fillM, Act.put, List.getElem?_cons_zero, List.getElem?_cons_succ, Option.join_some, Option.getD_some, Option.getD_none, List.setIfInBounds_toArray, List.set_cons_zero, List.set_cons_succ, Nat.zero_add, Nat.reduceAdd]
       clear hg
       go_wp2_with fail
       go_ret
       exact ⟨rfl, HXl.out.trans hx⟩
 · clear HB1 HB2
   refine wp_region_val [some (.agg #[.int .i64 x.st.tick, .int .i64 x.st.clock, .int .i64 x.st.site, .int .i64 x.st.seq, .int .i64 x.kind, .int .i64 x.box.lo.x, .int .i64 x.box.lo.y, .int .i64 x.box.lo.z, .int .i64 x.box.hi.x, .int .i64 x.box.hi.y, .int .i64 x.box.hi.z, .int .i64 x.at_.x, .int .i64 x.at_.y, .int .i64 x.at_.z, .int .i64 x.turn, .int .i64 x.cell, .int .i64 x.size]), some (.int .i64 n), some (.int .i64 ck), some (.bool false), some (.bool false), some (undef), some (undef), some (undef), some (undef), some (undef), some (undef), some (undef), some (.bool false)] hm (by kernel_rfl) (by kernel_rfl) rfl ?_ ?_ rfl rfl
   · refine c_ (s_row HBx Tryz.underlying29) ?_
     refine c_ s_mv ?_
     refine c_ (s_call fun w1 hx => HC.out w1) ?_
     refine c_ (s_run1 15 (hr := fun b w1 _ e => by unfold execOp; simp [e, Act.eval, go_sem, h0])) ?_
     refine c_ s_mv ?_
     refine c_ s_no ?_
     refine c_ s_no ?_
     refine c_ s_no ?_
     refine c_ s_no ?_
     refine c_ s_no ?_
     refine c_ s_no ?_
     refine c_ s_no ?_
     refine c_ (s_run2 17 24 (hr := fun b w1 _ e f => by unfold execOp; simp [e, f, Act.eval, go_sem])) ?_
     exact trivial
   · intro w9 hx
     simp only [fillM, Act.put, List.getElem?_cons_zero, List.getElem?_cons_succ, Option.join_some, Option.getD_some, List.setIfInBounds_toArray, List.set_cons_zero, List.set_cons_succ, Nat.zero_add, Nat.reduceAdd]
     go_upto_region 5 with fail
     have HX3 := Lib.hid hx
     have HBx := Lib.hid (HBx.out.ext hx)
     have HBy := Lib.hid (HBy.out.ext hx)
     have HXl := Lib.hid (HXl.out.trans hx)
     clear hx
     have HL := Lib.hid (show l.length ≤ 1000000 by omega)
     refine wp_region_mix [some (.bool true), some (.bool true), some (.int .i64 n), some (strV nm), some (.int .i64 n), some (strV nm), some (.bool true), some (.bool true), some (.bool true), some (.agg #[.int .i64 x.st.tick, .int .i64 x.st.clock, .int .i64 x.st.site, .int .i64 x.st.seq, .int .i64 x.kind, .int .i64 x.box.lo.x, .int .i64 x.box.lo.y, .int .i64 x.box.lo.z, .int .i64 x.box.hi.x, .int .i64 x.box.hi.y, .int .i64 x.box.hi.z, .int .i64 x.at_.x, .int .i64 x.at_.y, .int .i64 x.at_.z, .int .i64 x.turn, .int .i64 x.cell, .int .i64 x.size]), some (.agg #[.int .i64 y.st.tick, .int .i64 y.st.clock, .int .i64 y.st.site, .int .i64 y.st.seq, .int .i64 y.kind, .int .i64 y.box.lo.x, .int .i64 y.box.lo.y, .int .i64 y.box.lo.z, .int .i64 y.box.hi.x, .int .i64 y.box.hi.y, .int .i64 y.box.hi.z, .int .i64 y.at_.x, .int .i64 y.at_.y, .int .i64 y.at_.z, .int .i64 y.turn, .int .i64 y.cell, .int .i64 y.size]), some (.int .i64 cz), some (.agg #[.int .i64 x.st.tick, .int .i64 x.st.clock, .int .i64 x.st.site, .int .i64 x.st.seq, .int .i64 x.kind, .int .i64 x.box.lo.x, .int .i64 x.box.lo.y, .int .i64 x.box.lo.z, .int .i64 x.box.hi.x, .int .i64 x.box.hi.y, .int .i64 x.box.hi.z, .int .i64 x.at_.x, .int .i64 x.at_.y, .int .i64 x.at_.z, .int .i64 x.turn, .int .i64 x.cell, .int .i64 x.size]), some (.agg #[.int .i64 y.st.tick, .int .i64 y.st.clock, .int .i64 y.st.site, .int .i64 y.st.seq, .int .i64 y.kind, .int .i64 y.box.lo.x, .int .i64 y.box.lo.y, .int .i64 y.box.lo.z, .int .i64 y.box.hi.x, .int .i64 y.box.hi.y, .int .i64 y.box.hi.z, .int .i64 y.at_.x, .int .i64 y.at_.y, .int .i64 y.at_.z, .int .i64 y.turn, .int .i64 y.cell, .int .i64 y.size]), some (.int .i64 cz), some (.bool true), some (.bool true), some (.bool true), some (.slice A l.length c), none, some (.slice A l.length c), none, some (.bool true), some (.bool true), some (.bool true), some (.agg #[.int .i64 x.st.tick, .int .i64 x.st.clock, .int .i64 x.st.site, .int .i64 x.st.seq, .int .i64 x.kind, .int .i64 x.box.lo.x, .int .i64 x.box.lo.y, .int .i64 x.box.lo.z, .int .i64 x.box.hi.x, .int .i64 x.box.hi.y, .int .i64 x.box.hi.z, .int .i64 x.at_.x, .int .i64 x.at_.y, .int .i64 x.at_.z, .int .i64 x.turn, .int .i64 x.cell, .int .i64 x.size]), none, some (.agg #[.int .i64 x.st.tick, .int .i64 x.st.clock, .int .i64 x.st.site, .int .i64 x.st.seq, .int .i64 x.kind, .int .i64 x.box.lo.x, .int .i64 x.box.lo.y, .int .i64 x.box.lo.z, .int .i64 x.box.hi.x, .int .i64 x.box.hi.y, .int .i64 x.box.hi.z, .int .i64 x.at_.x, .int .i64 x.at_.y, .int .i64 x.at_.z, .int .i64 x.turn, .int .i64 x.cell, .int .i64 x.size]), none, some (.bool true), some (.bool true), some (.bool true), some (.agg #[.int .i64 x.st.tick, .int .i64 x.st.clock, .int .i64 x.st.site, .int .i64 x.st.seq, .int .i64 x.kind, .int .i64 x.box.lo.x, .int .i64 x.box.lo.y, .int .i64 x.box.lo.z, .int .i64 x.box.hi.x, .int .i64 x.box.hi.y, .int .i64 x.box.hi.z, .int .i64 x.at_.x, .int .i64 x.at_.y, .int .i64 x.at_.z, .int .i64 x.turn, .int .i64 x.cell, .int .i64 x.size]), some (.agg (bvs dg).toArray), some (.agg #[.int .i64 x.st.tick, .int .i64 x.st.clock, .int .i64 x.st.site, .int .i64 x.st.seq, .int .i64 x.kind, .int .i64 x.box.lo.x, .int .i64 x.box.lo.y, .int .i64 x.box.lo.z, .int .i64 x.box.hi.x, .int .i64 x.box.hi.y, .int .i64 x.box.hi.z, .int .i64 x.at_.x, .int .i64 x.at_.y, .int .i64 x.at_.z, .int .i64 x.turn, .int .i64 x.cell, .int .i64 x.size]), some (.agg (bvs dg).toArray), some (.bool true), some (.bool true), some (.bool true)] (fun i v w' => if i = 19 then (∃ m7 A7 c7, IsOrd l m7 ∧ v = .slice A7 m7.length c7 ∧ Sv w' w'.heap.size 17 A7 c7 (rowsE m7)) else (if i = 21 then (∃ m7 A7 c7, IsOrd l m7 ∧ v = .slice A7 m7.length c7 ∧ Sv w' w'.heap.size 17 A7 c7 (rowsE m7)) else (if i = 26 then (∃ A7 c7, v = .slice A7 (encE x).length c7 ∧ Sv w' w'.heap.size 1 A7 c7 (rowsB (encE x))) else (if i = 28 then (∃ A7 c7, v = .slice A7 (encE x).length c7 ∧ Sv w' w'.heap.size 1 A7 c7 (rowsB (encE x))) else (True))))) hm (by kernel_rfl) (by kernel_rfl) rfl ?_ ?_ ?_
     · exact g_if (fun v w1 w2 hx h => (fun ⟨m7, A7, c7, h0, h1, h2⟩ => ⟨m7, A7, c7, h0, h1, h2.ext hx⟩) h) (g_if (fun v w1 w2 hx h => (fun ⟨m7, A7, c7, h0, h1, h2⟩ => ⟨m7, A7, c7, h0, h1, h2.ext hx⟩) h) (g_if (fun v w1 w2 hx h => (fun ⟨A7, c7, h1, h2⟩ => ⟨A7, c7, h1, h2.ext hx⟩) h) (g_if (fun v w1 w2 hx h => (fun ⟨A7, c7, h1, h2⟩ => ⟨A7, c7, h1, h2.ext hx⟩) h) (g_true))))
     · refine c_ (s_call fun w1 hx => sanity_any w1 (HR.out.ext (HXl.out.trans hx))) ?_
       refine c_ s_mv ?_
       refine c_ s_mv ?_
       refine c_ (s_call fun w1 hx => HN1.out w1 (HXl.out.trans hx)) ?_
       refine c_ s_mv ?_
       refine c_ (s_call fun w1 hx => HN2.out w1) ?_
       refine c_ (s_run2 29 31 (hr := fun b w1 _ e f => by unfold execOp; simp [e, f, Act.eval, go_sem, strV])) ?_
       refine c_ (s_run2 27 32 (hr := fun b w1 _ e f => by unfold execOp; simp [e, f, Act.eval, go_sem])) ?_
       refine c_ s_mv ?_
       refine c_ (s_row HBx Tryz.underlying29) ?_
       refine c_ (s_row HBy Tryz.underlying29) ?_
       refine c_ (s_call fun w1 hx => HCM.out w1) ?_
       refine c_ (s_row HBx Tryz.underlying29) ?_
       refine c_ (s_row HBy Tryz.underlying29) ?_
       refine c_ (s_call fun w1 hx => HCR.out w1) ?_
       refine c_ (s_run2 37 40 (hr := fun b w1 _ e f => by unfold execOp; simp [e, f, Act.eval, go_sem])) ?_
       refine c_ (s_run2 34 41 (hr := fun b w1 _ e f => by unfold execOp; simp [e, f, Act.eval, go_sem])) ?_
       refine c_ s_mv ?_
       refine c_ s_mv ?_
       refine c_ (s_callG fun w1 hx => (show Calls Tryz.prog 22 _ w1 fun e w' => ∃ v, e = .returned v ∧ Ext w1 w' ∧ (∃ m7 A7 c7, IsOrd l m7 ∧ v = .slice A7 m7.length c7 ∧ Sv w' w'.heap.size 17 A7 c7 (rowsE m7)) from (HS1.out w1 (HXl.out.trans hx)).mono fun e w2 ⟨m7, v7, h0, h1, h2, h3⟩ => by obtain ⟨A7, c7, rfl, h4⟩ := own_svE h2; exact ⟨_, h1, h3, m7, A7, c7, h0, rfl, h4⟩).mono fun e w' ⟨v, h1, h2, h3⟩ => ⟨v, h1, h2, h3⟩) ?_
       refine c_ s_mv ?_
       refine c_ (s_callG fun w1 hx => (show Calls Tryz.prog 23 _ w1 fun e w' => ∃ v, e = .returned v ∧ Ext w1 w' ∧ (∃ m7 A7 c7, IsOrd l m7 ∧ v = .slice A7 m7.length c7 ∧ Sv w' w'.heap.size 17 A7 c7 (rowsE m7)) from (HS2.out w1 (HXl.out.trans hx)).mono fun e w2 ⟨m7, h0, A7, c7, h1, h2, h3⟩ => ⟨_, h1, h3, m7, A7, c7, h0, rfl, h2⟩).mono fun e w' ⟨v, h1, h2, h3⟩ => ⟨v, h1, h2, h3⟩) ?_
       refine c_ (s_by (.inr ⟨_, _, _, rfl, rfl, rfl, rfl⟩) fun b w1 h K hK => ?_) ?_
       · have hx := h.ext
         replace hK : ∀ v w', Ext w1 w' → (v = .bool true) → K (b.put (some 48) v) w' := fun v w' h1 h2 => (by subst h2; exact hK _ w' h1 (GdM.val rfl w'))
         obtain ⟨v45, g45, e45⟩ := h.dep 19 rfl
         have g45 : ∃ m7 A7 c7, IsOrd l m7 ∧ v45 = .slice A7 m7.length c7 ∧ Sv w1 w1.heap.size 17 A7 c7 (rowsE m7) := g45
         obtain ⟨m1, A1, c1, hmm1, rfl, hS1⟩ := g45
         have e45 := e45 45 rfl
         obtain ⟨v47, g47, e47⟩ := h.dep 21 rfl
         have g47 : ∃ m7 A7 c7, IsOrd l m7 ∧ v47 = .slice A7 m7.length c7 ∧ Sv w1 w1.heap.size 17 A7 c7 (rowsE m7) := g47
         obtain ⟨m2, A2, c2, hmm2, rfl, hS2⟩ := g47
         have e47 := e47 47 rfl
         have hc : Calls Tryz.prog 21 #[.slice A1 m1.length c1, .slice A2 m2.length c2] w1 fun e w' => ∃ v, e = .returned v ∧ Ext w1 w' ∧ (v = .bool true) := (sameE_true l m1 m2 hmm1 hmm2 A1 A2 c1 c2 w1 hS1 hS2 HL.out).mono fun e w2 ⟨h1, h2⟩ => ⟨_, h1, h2, rfl⟩
         exact op_call (G := fun v w' => v = .bool true) rfl (by simp [eval_of e45, eval_of e47]) (fun _ _ => by kernel_rfl) hc (fun v w' h1 h2 => hK v w' h1 h2)
       refine c_ (s_run2 43 48 (hr := fun b w1 _ e f => by unfold execOp; simp [e, f, Act.eval, go_sem])) ?_
       refine c_ s_mv ?_
       refine c_ (s_row HBx Tryz.underlying29) ?_
       refine c_ (s_callG fun w1 hx => (show Calls Tryz.prog 25 _ w1 fun e w' => ∃ v, e = .returned v ∧ Ext w1 w' ∧ (∃ A7 c7, v = .slice A7 (encE x).length c7 ∧ Sv w' w'.heap.size 1 A7 c7 (rowsB (encE x))) from (EncEd_any x HFx.out w1).mono fun e w2 ⟨A7, c7, h1, h2, h3⟩ => ⟨_, h1, h3, A7, c7, rfl, own_sv_B h2 rfl⟩).mono fun e w' ⟨v, h1, h2, h3⟩ => ⟨v, h1, h2, h3⟩) ?_
       refine c_ (s_row HBx Tryz.underlying29) ?_
       refine c_ (s_callG fun w1 hx => (show Calls Tryz.prog 26 _ w1 fun e w' => ∃ v, e = .returned v ∧ Ext w1 w' ∧ (∃ A7 c7, v = .slice A7 (encE x).length c7 ∧ Sv w' w'.heap.size 1 A7 c7 (rowsB (encE x))) from (refEnc_any x HFx.out w1).mono fun e w2 ⟨A7, c7, h1, h2, h3⟩ => ⟨_, h1, h3, A7, c7, rfl, own_sv_B h2 rfl⟩).mono fun e w' ⟨v, h1, h2, h3⟩ => ⟨v, h1, h2, h3⟩) ?_
       refine c_ (s_by (.inr ⟨_, _, _, rfl, rfl, rfl, rfl⟩) fun b w1 h K hK => ?_) ?_
       · have hx := h.ext
         replace hK : ∀ v w', Ext w1 w' → (v = .bool true) → K (b.put (some 55) v) w' := fun v w' h1 h2 => (by subst h2; exact hK _ w' h1 (GdM.val rfl w'))
         obtain ⟨v52, g52, e52⟩ := h.dep 26 rfl
         have g52 : ∃ A7 c7, v52 = .slice A7 (encE x).length c7 ∧ Sv w1 w1.heap.size 1 A7 c7 (rowsB (encE x)) := g52
         obtain ⟨A8, c8, rfl, hS8⟩ := g52
         have e52 := e52 52 rfl
         obtain ⟨v54, g54, e54⟩ := h.dep 28 rfl
         have g54 : ∃ A7 c7, v54 = .slice A7 (encE x).length c7 ∧ Sv w1 w1.heap.size 1 A7 c7 (rowsB (encE x)) := g54
         obtain ⟨A9, c9, rfl, hS9⟩ := g54
         have e54 := e54 54 rfl
         have hc : Calls Tryz.prog 24 #[.slice A8 (encE x).length c8, .slice A9 (encE x).length c9] w1 fun e w' => ∃ v, e = .returned v ∧ Ext w1 w' ∧ (v = .bool true) := (sameB_true (encE x) A8 A9 c8 c9 w1 hS8 hS9).mono fun e w2 ⟨h1, h2⟩ => ⟨_, h1, h2, rfl⟩
         exact op_call (G := fun v w' => v = .bool true) rfl (by simp [eval_of e52, eval_of e54]) (fun _ _ => by kernel_rfl) hc (fun v w' h1 h2 => hK v w' h1 h2)
       refine c_ (s_run2 50 55 (hr := fun b w1 _ e f => by unfold execOp; simp [e, f, Act.eval, go_sem])) ?_
       refine c_ s_mv ?_
       refine c_ (s_row HBx Tryz.underlying29) ?_
       refine c_ (s_call fun w1 hx => HD1.out w1 (HXl.out.trans hx)) ?_
       refine c_ (s_row HBx Tryz.underlying29) ?_
       refine c_ (s_call fun w1 hx => HD2.out w1 (HXl.out.trans hx)) ?_
       refine c_ (s_run2 59 61 (hr := fun b w1 _ e f => by unfold execOp; simp [e, f, Act.eval, go_sem, hdg])) ?_
       refine c_ (s_run2 57 62 (hr := fun b w1 _ e f => by unfold execOp; simp [e, f, Act.eval, go_sem])) ?_
       refine c_ s_mv ?_
       exact trivial
     · intro U w9 hx hg
       have g19 : ∃ m7 A7 c7, IsOrd l m7 ∧ U 19 = .slice A7 m7.length c7 ∧ Sv w9 w9.heap.size 17 A7 c7 (rowsE m7) := hg 19 (by decide) rfl
       have g21 : ∃ m7 A7 c7, IsOrd l m7 ∧ U 21 = .slice A7 m7.length c7 ∧ Sv w9 w9.heap.size 17 A7 c7 (rowsE m7) := hg 21 (by decide) rfl
       have g26 : ∃ A7 c7, U 26 = .slice A7 (encE x).length c7 ∧ Sv w9 w9.heap.size 1 A7 c7 (rowsB (encE x)) := hg 26 (by decide) rfl
       have g28 : ∃ A7 c7, U 28 = .slice A7 (encE x).length c7 ∧ Sv w9 w9.heap.size 1 A7 c7 (rowsB (encE x)) := hg 28 (by decide) rfl
       simp only [fillM, Act.put, List.getElem?_cons_zero, List.getElem?_cons_succ, Option.join_some, Option.getD_some, Option.getD_none, List.setIfInBounds_toArray, List.set_cons_zero, List.set_cons_succ, Nat.zero_add, Nat.reduceAdd]
       clear hg
       go_wp2_with fail
       go_ret
       exact ⟨rfl, HXl.out.trans hx⟩
end Go.Proofs.YtlinhgannajfpaaGreatDoor

/- EditMatchesSpec: for every input the law returns true, and each argument reads as it did. No condition. -/
namespace Go.Proofs.YtlinhgannajfpaaGreatDoor
open Go Go.RowKit Go.ChangeShapes Go.WideShapes Go.ChangeAt

set_option maxHeartbeats 1600000 in
set_option maxRecDepth 100000 in
theorem editMatchesSpec_lifted (os : Os) (started : os.Started) (H : Type) (enc : TypeId × Value → H) :
    ReturnsInHanded {} Tryz.checked os 4 .any (fun w args => (Rows.editMatchesSpecSpec.pre enc Tryz.prog Tryz.f4 Rows.editMatchesSpecRow.domain false w args ∧ laidMetH Tryz.prog laidL w) ∧ sizedMet enc Tryz.prog Tryz.f4 (OpenSpec.ofChange Rows.editMatchesSpecSpec) false w args) (Rows.editMatchesSpecSpec.post enc Tryz.prog Tryz.f4 false true false false) := by
 refine returnsInHanded_of_change_and (C := Tryz.checked) (X := fun w _ => laidMetH Tryz.prog laidL w) (fun _ _ _ hh h => h.of_heap hh) own_ started (by kernel_rfl) Tryz.func4
  (ChangeSpec.witness_shaped (enc := enc) (C := Tryz.checked) (os := os) (X := fun w _ => laidMetH Tryz.prog laidL w) false (World.laidAll Tryz.prog os laidL) #[.agg #[.int .i64 0, .int .i64 0, .int .i64 0, .int .i64 0, .int .i64 0, .int .i64 0, .int .i64 0, .int .i64 0, .int .i64 0, .int .i64 0, .int .i64 0, .int .i64 0, .int .i64 0, .int .i64 0, .int .i64 0, .int .i64 0, .int .i64 0], .agg #[.int .i64 0, .int .i64 0, .int .i64 0, .int .i64 0, .int .i64 0, .int .i64 0, .int .i64 0, .int .i64 0, .int .i64 0, .int .i64 0, .int .i64 0, .int .i64 0, .int .i64 0, .int .i64 0, .int .i64 0, .int .i64 0, .int .i64 0], .slice none 0 0, .int .i64 0] 8 (World.laidAll_os _ _ _) (World.shaped_of_ZipB (by kernel_rfl) (by kernel_rfl)) (by kernel_rfl) (by kernel_rfl) (by kernel_rfl)
    (by rw [MakeChecks.laidMetH_plain _ _ _ (by kernel_rfl)]; exact laidMet_laidAll _ (by kernel_rfl) (by kernel_rfl))) ?_
 intro W base args ds gs before hval0 hW hcnd _ hLd _
 have hval : ∀ (j : Nat) t v, Tryz.f4.params[j]? = some t → args[j]? = some v → Value.okWide Tryz.prog W .any base t v := hval0
 have hLd := laid_of hLd
 have hW' := hW
 obtain ⟨p, q, hA0, hV, rfl, hfz, hnd⟩ := hW
 have hA : DataW.TrodAll enc Tryz.prog W 0 (fun _ => true) true Tryz.f4.params.toList args.toList ds p := hA0
 have hAll := hA
 rw [Tryz.params4] at hA hval
 obtain ⟨v0, vs0, d0, ds0, p0, q0, ha, rfl, rfl, h0, r0⟩ := trodAll_cons hA
 obtain ⟨v1, vs1, d1, ds1, p1, q1, rfl, rfl, rfl, h1, r1⟩ := trodAll_cons r0
 obtain ⟨v2, vs2, d2, ds2, p2, q2, rfl, rfl, rfl, h2, r2⟩ := trodAll_cons r1
 obtain ⟨v3, vs3, d3, ds3, p3, q3, rfl, rfl, rfl, h3, r3⟩ := trodAll_cons r2
 obtain ⟨rfl, rfl, rfl⟩ := trodAll_nil r3
 obtain ⟨rfl, rfl⟩ := trodVars_none hV
 have hargs : args = #[v0, v1, v2, v3] := by apply Array.ext'; exact ha
 subst hargs
 obtain ⟨x, rfl, hfx⟩ := read_Ed (hval 0 _ _ rfl rfl) h0
 obtain ⟨y, rfl, hfy⟩ := read_Ed (hval 1 _ _ rfl rfl) h1
 obtain ⟨A, c, l, rfl, hs, hfl⟩ := read_Eds (hval 2 _ _ rfl rfl) h2
 obtain ⟨n, rfl, rfl, rfl, _⟩ := open_int Tryz.underlying3 (hval 3 _ _ rfl rfl) h3
 refine (EditMatchesSpec_any x y (fitE_of hfx) (fits_of hfx) l A c n W hs hLd).mono fun e W' ⟨he, hx⟩ => ?_
 subst he
 have hlt : ∀ x, x ∈ (p0 ++ (p1 ++ (p2 ++ ([] ++ [])))) → x.block < W.heap.size := fun x hx2 => hW'.lt x (by simpa using hx2)
 exact ⟨_, rfl, _, _, _, [], _, [], hW', trodAll_mk1 (shut_bool Tryz.underlying4 true), args_below laidOut_ _ _ _ _ W' (by rw [Tryz.params4]; intro t ht; simp at ht; rcases ht with rfl | rfl | rfl <;> exact ⟨by kernel_rfl, of_decide_eq_true (by kernel_rfl)⟩) hAll hx.below hlt, rfl, hx.below.frame _, fun h => by cases h⟩

theorem editMatchesSpec_row : Rows.EditMatchesSpecSaid :=
 OpenClaim.holds_of_wide 4 Tryz.f4 rfl rfl rfl rfl rfl rfl rfl ⟨rfl, rfl, rfl, rfl, rfl⟩ rfl rfl rfl rfl rfl (by kernel_rfl) Tryz.func4 (by kernel_rfl)
  (of_decide_eq_true (by kernel_rfl)) (by unfold Func.isWrapper; rw [if_neg (of_decide_eq_false (by kernel_rfl))]; exact ⟨rfl, rfl⟩)
  (fun os started H enc _ => editMatchesSpec_lifted os started H enc)

theorem editMatchesSpec_holds : Rows.EditMatchesSpecCardSaid :=
 Claim7.holds_tied_plain_at .later [] [.data, .data, .data, .data] true Rows.editMatchesSpecCard.stood.harness false
  editMatchesSpec_row (fun _ h => by cases h) (by kernel_rfl) (fun _ h => by cases h) editMatchesSpec_row_tie rfl ⟨rfl, rfl⟩ (by kernel_rfl) rfl
  (fun f fn hf hfn => by
    obtain rfl : f = 4 := Option.some.inj ((show Tryz.prog.funcNamed "voxel/voxellaw25.EditMatchesSpec" = some 4 by kernel_rfl).symm.trans hf) |>.symm
    obtain rfl : fn = Tryz.f4 := (Option.some.inj (Tryz.func4.symm.trans hfn)).symm
    exact ⟨by kernel_rfl, fun j t ht => by
     rw [Tryz.params4] at ht
     have hm : t ∈ [29, 29, 35, 3] := by simpa using Array.mem_of_getElem? ht
     have hall : ([29, 29, 35, 3].all fun u => !Tryz.prog.wantsStandIn u) = true := by kernel_rfl
     exact (show Tryz.prog.wantsStandIn t = false by simpa using List.all_eq_true.1 hall t hm)⟩)
  (by kernel_rfl)
end Go.Proofs.YtlinhgannajfpaaGreatDoor
