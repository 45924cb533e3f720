/- YtlinhgannajfpaaGreatDoorUw · YtlinhgannajfpaaGreatDoorUwP -/
import Derived.Test.YtlinhgannajfpaaGreatDoorTie
import Derived.Test.YtlinhgannajfpaaGreatDoorCards
import Derived.LaidLaws
import Derived.SevenTiedAt
import Derived.Test.YtlinhgannajfpaaGreatDoorZa11
/- EditChecksAsSpecified. -/
namespace Go.Proofs.YtlinhgannajfpaaGreatDoor
open Go Go.RowKit

set_option maxRecDepth 100000 in
set_option maxHeartbeats 8000000 in
theorem EditChecksAsSpecified_any (x : Ed) (hf : fits x) (dd mm : Int) (w : World) (hR : EnvI w) :
    Calls Tryz.prog 3 #[.agg #[.int .i64 x.st.tick, .int .i64 x.st.clock, .int .i64 x.st.site, .int .i64 x.st.seq, .int .i64 x.kind, .int .i64 x.box.lo.x, .int .i64 x.box.lo.y, .int .i64 x.box.lo.z, .int .i64 x.box.hi.x, .int .i64 x.box.hi.y, .int .i64 x.box.hi.z, .int .i64 x.at_.x, .int .i64 x.at_.y, .int .i64 x.at_.z, .int .i64 x.turn, .int .i64 x.cell, .int .i64 x.size], .int .i64 dd, .int .i64 mm] w fun e w' => e = .returned (.bool true) ∧ Ext w w' := by
  have hm := mixed
  have HR := Lib.hid hR
  have HC2 := Lib.hid (fun w : World => (check_eq x dd mm hf) ▸ refCheck_any x dd mm w)
  clear hR hf
  obtain ⟨W0, hW⟩ : ∃ W, W = w.alloc (.cells #[.int .i64 x.st.tick, .int .i64 x.st.clock, .int .i64 x.st.site, .int .i64 x.st.seq, .int .i64 x.kind, .int .i64 x.box.lo.x, .int .i64 x.box.lo.y, .int .i64 x.box.lo.z, .int .i64 x.box.hi.x, .int .i64 x.box.hi.y, .int .i64 x.box.hi.z, .int .i64 x.at_.x, .int .i64 x.at_.y, .int .i64 x.at_.z, .int .i64 x.turn, .int .i64 x.cell, .int .i64 x.size] 29) := ⟨_, rfl⟩
  have HX0 := Lib.hid (show Ext w W0 by rw [hW]; exact (Ext.refl w).alloc _)
  have HB0 := Lib.hid (show Arr W0 w.heap.size 29 [.int .i64 x.st.tick, .int .i64 x.st.clock, .int .i64 x.st.site, .int .i64 x.st.seq, .int .i64 x.kind, .int .i64 x.box.lo.x, .int .i64 x.box.lo.y, .int .i64 x.box.lo.z, .int .i64 x.box.hi.x, .int .i64 x.box.hi.y, .int .i64 x.box.hi.z, .int .i64 x.at_.x, .int .i64 x.at_.y, .int .i64 x.at_.z, .int .i64 x.turn, .int .i64 x.cell, .int .i64 x.size] by rw [hW]; exact Arr.new w _ _)
  go_enter Tryz.func3, Tryz.ntmps3
  go_upto_region 1 with fail
  rw [← hW]
  clear hW
  refine wp_region_rel (fun i v w' => match i with
      | 0 => v = .bool true
      | 1 => v = .bool true
      | 2 => v = .agg #[.int .i64 x.st.tick, .int .i64 x.st.clock, .int .i64 x.st.site, .int .i64 x.st.seq, .int .i64 x.kind, .int .i64 x.box.lo.x, .int .i64 x.box.lo.y, .int .i64 x.box.lo.z, .int .i64 x.box.hi.x, .int .i64 x.box.hi.y, .int .i64 x.box.hi.z, .int .i64 x.at_.x, .int .i64 x.at_.y, .int .i64 x.at_.z, .int .i64 x.turn, .int .i64 x.cell, .int .i64 x.size]
      | 3 => v = .int .i64 dd
      | 4 => v = .int .i64 mm
      | 5 => v = .int .i64 (checkE x dd mm)
      | 6 => v = .agg #[.int .i64 x.st.tick, .int .i64 x.st.clock, .int .i64 x.st.site, .int .i64 x.st.seq, .int .i64 x.kind, .int .i64 x.box.lo.x, .int .i64 x.box.lo.y, .int .i64 x.box.lo.z, .int .i64 x.box.hi.x, .int .i64 x.box.hi.y, .int .i64 x.box.hi.z, .int .i64 x.at_.x, .int .i64 x.at_.y, .int .i64 x.at_.z, .int .i64 x.turn, .int .i64 x.cell, .int .i64 x.size]
      | 7 => v = .int .i64 dd
      | 8 => v = .int .i64 mm
      | 9 => v = .int .i64 (checkE x dd mm)
      | 10 => v = .bool true
      | 11 => v = .bool true
      | 12 => v = .bool true
      | 13 => v = .agg #[.int .i64 x.st.tick, .int .i64 x.st.clock, .int .i64 x.st.site, .int .i64 x.st.seq, .int .i64 x.kind, .int .i64 x.box.lo.x, .int .i64 x.box.lo.y, .int .i64 x.box.lo.z, .int .i64 x.box.hi.x, .int .i64 x.box.hi.y, .int .i64 x.box.hi.z, .int .i64 x.at_.x, .int .i64 x.at_.y, .int .i64 x.at_.z, .int .i64 x.turn, .int .i64 x.cell, .int .i64 x.size]
      | 14 => v = .bool (formedE x)
      | 15 => v = .agg #[.int .i64 x.st.tick, .int .i64 x.st.clock, .int .i64 x.st.site, .int .i64 x.st.seq, .int .i64 x.kind, .int .i64 x.box.lo.x, .int .i64 x.box.lo.y, .int .i64 x.box.lo.z, .int .i64 x.box.hi.x, .int .i64 x.box.hi.y, .int .i64 x.box.hi.z, .int .i64 x.at_.x, .int .i64 x.at_.y, .int .i64 x.at_.z, .int .i64 x.turn, .int .i64 x.cell, .int .i64 x.size]
      | 16 => v = .bool (formedE x)
      | 17 => v = .bool true
      | 18 => v = .bool true
      | 19 => v = .bool true
      | _ => True) hm (by kernel_rfl) (by kernel_rfl) rfl ?_ ?_ ?_
  · intro i v w1 w2 hx h
    match i, h with
    | 0, h => exact h
    | 1, h => exact h
    | 2, h => exact h
    | 3, h => exact h
    | 4, h => exact h
    | 5, h => exact h
    | 6, h => exact h
    | 7, h => exact h
    | 8, h => exact h
    | 9, h => exact h
    | 10, h => exact h
    | 11, h => exact h
    | 12, h => exact h
    | 13, h => exact h
    | 14, h => exact h
    | 15, h => exact h
    | 16, h => exact h
    | 17, h => exact h
    | 18, h => exact h
    | 19, h => exact h
    | i + 20, h => exact h
  · intro i o ho b w1 hx hmiss hdep K hK
    match i, ho with
    | 0, ho =>
      obtain rfl := Option.some.inj ho
      refine want_none rfl ?_
      have hc : Calls Tryz.prog 10 #[] w1 fun e w' => ∃ v, e = .returned v ∧ Ext w1 w' ∧ (v = .bool true) := (sanity_any w1 (HR.out.ext (HX0.out.trans hx))).mono fun e w2 ⟨h1, h2⟩ => ⟨_, h1, h2, rfl⟩
      exact op_call (G := fun v w' => v = .bool true) (vs := #[]) rfl (by simp) (fun _ _ => by kernel_rfl) hc (fun v w' h1 h2 => hK v w' h1 h2)
    | 1, ho =>
      obtain rfl := Option.some.inj ho
      obtain ⟨v7, g7, e7⟩ := hdep 0 rfl
      obtain rfl := g7
      have e7 := e7 7 rfl
      refine want_none rfl ?_
      exact op_move rfl (eval_of e7) (hK _ w1 (Ext.refl _) rfl)
    | 2, ho =>
      obtain rfl := Option.some.inj ho
      have e3 : b.tmps[3]? = some (.pointer (some ⟨w.heap.size, 0, none⟩)) := hmiss 3 rfl
      obtain ⟨vg, gg, eg⟩ := hdep 1 rfl
      have gg : vg = .bool true := gg
      subst gg
      have eg := eg 8 rfl
      refine want_yes rfl rfl eg ?_
      exact op_loadrow rfl (eval_of e3) (HB0.out.ext hx) _ Tryz.underlying29 rfl (by kernel_rfl) (hK _ w1 (Ext.refl _) rfl)
    | 3, ho =>
      obtain rfl := Option.some.inj ho
      have e1 : b.tmps[1]? = some (.int .i64 dd) := hmiss 1 rfl
      obtain ⟨vg, gg, eg⟩ := hdep 1 rfl
      have gg : vg = .bool true := gg
      subst gg
      have eg := eg 8 rfl
      refine want_yes rfl rfl eg ?_
      exact op_move rfl (eval_of e1) (hK _ w1 (Ext.refl _) rfl)
    | 4, ho =>
      obtain rfl := Option.some.inj ho
      have e2 : b.tmps[2]? = some (.int .i64 mm) := hmiss 2 rfl
      obtain ⟨vg, gg, eg⟩ := hdep 1 rfl
      have gg : vg = .bool true := gg
      subst gg
      have eg := eg 8 rfl
      refine want_yes rfl rfl eg ?_
      exact op_move rfl (eval_of e2) (hK _ w1 (Ext.refl _) rfl)
    | 5, ho =>
      obtain rfl := Option.some.inj ho
      obtain ⟨v9, g9, e9⟩ := hdep 2 rfl
      have g9 : v9 = .agg #[.int .i64 x.st.tick, .int .i64 x.st.clock, .int .i64 x.st.site, .int .i64 x.st.seq, .int .i64 x.kind, .int .i64 x.box.lo.x, .int .i64 x.box.lo.y, .int .i64 x.box.lo.z, .int .i64 x.box.hi.x, .int .i64 x.box.hi.y, .int .i64 x.box.hi.z, .int .i64 x.at_.x, .int .i64 x.at_.y, .int .i64 x.at_.z, .int .i64 x.turn, .int .i64 x.cell, .int .i64 x.size] := g9
      subst g9
      have e9 := e9 9 rfl
      obtain ⟨v10, g10, e10⟩ := hdep 3 rfl
      have g10 : v10 = .int .i64 dd := g10
      subst g10
      have e10 := e10 10 rfl
      obtain ⟨v11, g11, e11⟩ := hdep 4 rfl
      have g11 : v11 = .int .i64 mm := g11
      subst g11
      have e11 := e11 11 rfl
      obtain ⟨vg, gg, eg⟩ := hdep 1 rfl
      have gg : vg = .bool true := gg
      subst gg
      have eg := eg 8 rfl
      refine want_yes rfl rfl eg ?_
      have hc : Calls Tryz.prog 11 #[.agg #[.int .i64 x.st.tick, .int .i64 x.st.clock, .int .i64 x.st.site, .int .i64 x.st.seq, .int .i64 x.kind, .int .i64 x.box.lo.x, .int .i64 x.box.lo.y, .int .i64 x.box.lo.z, .int .i64 x.box.hi.x, .int .i64 x.box.hi.y, .int .i64 x.box.hi.z, .int .i64 x.at_.x, .int .i64 x.at_.y, .int .i64 x.at_.z, .int .i64 x.turn, .int .i64 x.cell, .int .i64 x.size], .int .i64 dd, .int .i64 mm] w1 fun e w' => ∃ v, e = .returned v ∧ Ext w1 w' ∧ (v = .int .i64 (checkE x dd mm)) := (Check_any x dd mm w1 (HR.out.ext (HX0.out.trans hx)).R).mono fun e w2 ⟨h1, h2⟩ => ⟨_, h1, h2, rfl⟩
      exact op_call (G := fun v w' => v = .int .i64 (checkE x dd mm)) rfl (by simp [eval_of e9, eval_of e10, eval_of e11]) (fun _ _ => by kernel_rfl) hc (fun v w' h1 h2 => hK v w' h1 h2)
    | 6, ho =>
      obtain rfl := Option.some.inj ho
      have e3 : b.tmps[3]? = some (.pointer (some ⟨w.heap.size, 0, none⟩)) := hmiss 3 rfl
      obtain ⟨vg, gg, eg⟩ := hdep 1 rfl
      have gg : vg = .bool true := gg
      subst gg
      have eg := eg 8 rfl
      refine want_yes rfl rfl eg ?_
      exact op_loadrow rfl (eval_of e3) (HB0.out.ext hx) _ Tryz.underlying29 rfl (by kernel_rfl) (hK _ w1 (Ext.refl _) rfl)
    | 7, ho =>
      obtain rfl := Option.some.inj ho
      have e1 : b.tmps[1]? = some (.int .i64 dd) := hmiss 1 rfl
      obtain ⟨vg, gg, eg⟩ := hdep 1 rfl
      have gg : vg = .bool true := gg
      subst gg
      have eg := eg 8 rfl
      refine want_yes rfl rfl eg ?_
      exact op_move rfl (eval_of e1) (hK _ w1 (Ext.refl _) rfl)
    | 8, ho =>
      obtain rfl := Option.some.inj ho
      have e2 : b.tmps[2]? = some (.int .i64 mm) := hmiss 2 rfl
      obtain ⟨vg, gg, eg⟩ := hdep 1 rfl
      have gg : vg = .bool true := gg
      subst gg
      have eg := eg 8 rfl
      refine want_yes rfl rfl eg ?_
      exact op_move rfl (eval_of e2) (hK _ w1 (Ext.refl _) rfl)
    | 9, ho =>
      obtain rfl := Option.some.inj ho
      obtain ⟨v13, g13, e13⟩ := hdep 6 rfl
      have g13 : v13 = .agg #[.int .i64 x.st.tick, .int .i64 x.st.clock, .int .i64 x.st.site, .int .i64 x.st.seq, .int .i64 x.kind, .int .i64 x.box.lo.x, .int .i64 x.box.lo.y, .int .i64 x.box.lo.z, .int .i64 x.box.hi.x, .int .i64 x.box.hi.y, .int .i64 x.box.hi.z, .int .i64 x.at_.x, .int .i64 x.at_.y, .int .i64 x.at_.z, .int .i64 x.turn, .int .i64 x.cell, .int .i64 x.size] := g13
      subst g13
      have e13 := e13 13 rfl
      obtain ⟨v14, g14, e14⟩ := hdep 7 rfl
      have g14 : v14 = .int .i64 dd := g14
      subst g14
      have e14 := e14 14 rfl
      obtain ⟨v15, g15, e15⟩ := hdep 8 rfl
      have g15 : v15 = .int .i64 mm := g15
      subst g15
      have e15 := e15 15 rfl
      obtain ⟨vg, gg, eg⟩ := hdep 1 rfl
      have gg : vg = .bool true := gg
      subst gg
      have eg := eg 8 rfl
      refine want_yes rfl rfl eg ?_
      have hc : Calls Tryz.prog 12 #[.agg #[.int .i64 x.st.tick, .int .i64 x.st.clock, .int .i64 x.st.site, .int .i64 x.st.seq, .int .i64 x.kind, .int .i64 x.box.lo.x, .int .i64 x.box.lo.y, .int .i64 x.box.lo.z, .int .i64 x.box.hi.x, .int .i64 x.box.hi.y, .int .i64 x.box.hi.z, .int .i64 x.at_.x, .int .i64 x.at_.y, .int .i64 x.at_.z, .int .i64 x.turn, .int .i64 x.cell, .int .i64 x.size], .int .i64 dd, .int .i64 mm] w1 fun e w' => ∃ v, e = .returned v ∧ Ext w1 w' ∧ (v = .int .i64 (checkE x dd mm)) := (HC2.out w1).mono fun e w2 ⟨h1, h2⟩ => ⟨_, h1, h2, rfl⟩
      exact op_call (G := fun v w' => v = .int .i64 (checkE x dd mm)) rfl (by simp [eval_of e13, eval_of e14, eval_of e15]) (fun _ _ => by kernel_rfl) hc (fun v w' h1 h2 => hK v w' h1 h2)
    | 10, ho =>
      obtain rfl := Option.some.inj ho
      obtain ⟨v12, g12, e12⟩ := hdep 5 rfl
      obtain rfl := g12
      have e12 := e12 12 rfl
      obtain ⟨v16, g16, e16⟩ := hdep 9 rfl
      obtain rfl := g16
      have e16 := e16 16 rfl
      obtain ⟨vg, gg, eg⟩ := hdep 1 rfl
      have gg : vg = .bool true := gg
      subst gg
      have eg := eg 8 rfl
      refine want_yes rfl rfl eg ?_
      exact op_run (by unfold execOp; simp [e12, e16, Act.eval, go_sem]) (hK _ w1 (Ext.refl _) rfl)
    | 11, ho =>
      obtain rfl := Option.some.inj ho
      obtain ⟨v8, g8, e8⟩ := hdep 1 rfl
      have g8 : v8 = .bool true := g8
      subst g8
      have e8 := e8 8 rfl
      obtain ⟨v17, g17, e17⟩ := hdep 10 rfl
      have g17 : v17 = .bool true := g17
      subst g17
      have e17 := e17 17 rfl
      refine want_none rfl ?_
      exact op_run (by unfold execOp; simp [e8, e17, Act.eval, go_sem]) (hK _ w1 (Ext.refl _) rfl)
    | 12, ho =>
      obtain rfl := Option.some.inj ho
      obtain ⟨v18, g18, e18⟩ := hdep 11 rfl
      have g18 : v18 = .bool true := g18
      subst g18
      have e18 := e18 18 rfl
      refine want_none rfl ?_
      exact op_move rfl (eval_of e18) (hK _ w1 (Ext.refl _) rfl)
    | 13, ho =>
      obtain rfl := Option.some.inj ho
      have e3 : b.tmps[3]? = some (.pointer (some ⟨w.heap.size, 0, none⟩)) := hmiss 3 rfl
      obtain ⟨vg, gg, eg⟩ := hdep 12 rfl
      have gg : vg = .bool true := gg
      subst gg
      have eg := eg 19 rfl
      refine want_yes rfl rfl eg ?_
      exact op_loadrow rfl (eval_of e3) (HB0.out.ext hx) _ Tryz.underlying29 rfl (by kernel_rfl) (hK _ w1 (Ext.refl _) rfl)
    | 14, ho =>
      obtain rfl := Option.some.inj ho
      obtain ⟨v20, g20, e20⟩ := hdep 13 rfl
      have g20 : v20 = .agg #[.int .i64 x.st.tick, .int .i64 x.st.clock, .int .i64 x.st.site, .int .i64 x.st.seq, .int .i64 x.kind, .int .i64 x.box.lo.x, .int .i64 x.box.lo.y, .int .i64 x.box.lo.z, .int .i64 x.box.hi.x, .int .i64 x.box.hi.y, .int .i64 x.box.hi.z, .int .i64 x.at_.x, .int .i64 x.at_.y, .int .i64 x.at_.z, .int .i64 x.turn, .int .i64 x.cell, .int .i64 x.size] := g20
      subst g20
      have e20 := e20 20 rfl
      obtain ⟨vg, gg, eg⟩ := hdep 12 rfl
      have gg : vg = .bool true := gg
      subst gg
      have eg := eg 19 rfl
      refine want_yes rfl rfl eg ?_
      have hc : Calls Tryz.prog 13 #[.agg #[.int .i64 x.st.tick, .int .i64 x.st.clock, .int .i64 x.st.site, .int .i64 x.st.seq, .int .i64 x.kind, .int .i64 x.box.lo.x, .int .i64 x.box.lo.y, .int .i64 x.box.lo.z, .int .i64 x.box.hi.x, .int .i64 x.box.hi.y, .int .i64 x.box.hi.z, .int .i64 x.at_.x, .int .i64 x.at_.y, .int .i64 x.at_.z, .int .i64 x.turn, .int .i64 x.cell, .int .i64 x.size]] w1 fun e w' => ∃ v, e = .returned v ∧ Ext w1 w' ∧ (v = .bool (formedE x)) := (Formed_any x w1 (HR.out.ext (HX0.out.trans hx)).R).mono fun e w2 ⟨h1, h2⟩ => ⟨_, h1, h2, rfl⟩
      exact op_call (G := fun v w' => v = .bool (formedE x)) rfl (by simp [eval_of e20]) (fun _ _ => by kernel_rfl) hc (fun v w' h1 h2 => hK v w' h1 h2)
    | 15, ho =>
      obtain rfl := Option.some.inj ho
      have e3 : b.tmps[3]? = some (.pointer (some ⟨w.heap.size, 0, none⟩)) := hmiss 3 rfl
      obtain ⟨vg, gg, eg⟩ := hdep 12 rfl
      have gg : vg = .bool true := gg
      subst gg
      have eg := eg 19 rfl
      refine want_yes rfl rfl eg ?_
      exact op_loadrow rfl (eval_of e3) (HB0.out.ext hx) _ Tryz.underlying29 rfl (by kernel_rfl) (hK _ w1 (Ext.refl _) rfl)
    | 16, ho =>
      obtain rfl := Option.some.inj ho
      obtain ⟨v22, g22, e22⟩ := hdep 15 rfl
      have g22 : v22 = .agg #[.int .i64 x.st.tick, .int .i64 x.st.clock, .int .i64 x.st.site, .int .i64 x.st.seq, .int .i64 x.kind, .int .i64 x.box.lo.x, .int .i64 x.box.lo.y, .int .i64 x.box.lo.z, .int .i64 x.box.hi.x, .int .i64 x.box.hi.y, .int .i64 x.box.hi.z, .int .i64 x.at_.x, .int .i64 x.at_.y, .int .i64 x.at_.z, .int .i64 x.turn, .int .i64 x.cell, .int .i64 x.size] := g22
      subst g22
      have e22 := e22 22 rfl
      obtain ⟨vg, gg, eg⟩ := hdep 12 rfl
      have gg : vg = .bool true := gg
      subst gg
      have eg := eg 19 rfl
      refine want_yes rfl rfl eg ?_
      have hc : Calls Tryz.prog 14 #[.agg #[.int .i64 x.st.tick, .int .i64 x.st.clock, .int .i64 x.st.site, .int .i64 x.st.seq, .int .i64 x.kind, .int .i64 x.box.lo.x, .int .i64 x.box.lo.y, .int .i64 x.box.lo.z, .int .i64 x.box.hi.x, .int .i64 x.box.hi.y, .int .i64 x.box.hi.z, .int .i64 x.at_.x, .int .i64 x.at_.y, .int .i64 x.at_.z, .int .i64 x.turn, .int .i64 x.cell, .int .i64 x.size]] w1 fun e w' => ∃ v, e = .returned v ∧ Ext w1 w' ∧ (v = .bool (formedE x)) := (refFormed_any x w1).mono fun e w2 ⟨h1, h2⟩ => ⟨_, h1, h2, rfl⟩
      exact op_call (G := fun v w' => v = .bool (formedE x)) rfl (by simp [eval_of e22]) (fun _ _ => by kernel_rfl) hc (fun v w' h1 h2 => hK v w' h1 h2)
    | 17, ho =>
      obtain rfl := Option.some.inj ho
      obtain ⟨v21, g21, e21⟩ := hdep 14 rfl
      obtain rfl := g21
      have e21 := e21 21 rfl
      obtain ⟨v23, g23, e23⟩ := hdep 16 rfl
      obtain rfl := g23
      have e23 := e23 23 rfl
      obtain ⟨vg, gg, eg⟩ := hdep 12 rfl
      have gg : vg = .bool true := gg
      subst gg
      have eg := eg 19 rfl
      refine want_yes rfl rfl eg ?_
      exact op_run (by unfold execOp; simp [e21, e23, Act.eval, go_sem]) (hK _ w1 (Ext.refl _) rfl)
    | 18, ho =>
      obtain rfl := Option.some.inj ho
      obtain ⟨v19, g19, e19⟩ := hdep 12 rfl
      have g19 : v19 = .bool true := g19
      subst g19
      have e19 := e19 19 rfl
      obtain ⟨v24, g24, e24⟩ := hdep 17 rfl
      have g24 : v24 = .bool true := g24
      subst g24
      have e24 := e24 24 rfl
      refine want_none rfl ?_
      exact op_run (by unfold execOp; simp [e19, e24, Act.eval, go_sem]) (hK _ w1 (Ext.refl _) rfl)
    | 19, ho =>
      obtain rfl := Option.some.inj ho
      obtain ⟨v25, g25, e25⟩ := hdep 18 rfl
      have g25 : v25 = .bool true := g25
      subst g25
      have e25 := e25 25 rfl
      refine want_none rfl ?_
      exact op_assign rfl (eval_of e25) (hK _ w1 (Ext.refl _) rfl)
    | i + 20, ho => cases ho
  · intro V w9 hx hg
    have g1 : V 1 = .bool true := hg 1 (by decide)
    have g2 : V 2 = .agg #[.int .i64 x.st.tick, .int .i64 x.st.clock, .int .i64 x.st.site, .int .i64 x.st.seq, .int .i64 x.kind, .int .i64 x.box.lo.x, .int .i64 x.box.lo.y, .int .i64 x.box.lo.z, .int .i64 x.box.hi.x, .int .i64 x.box.hi.y, .int .i64 x.box.hi.z, .int .i64 x.at_.x, .int .i64 x.at_.y, .int .i64 x.at_.z, .int .i64 x.turn, .int .i64 x.cell, .int .i64 x.size] := hg 2 (by decide)
    have g3 : V 3 = .int .i64 dd := hg 3 (by decide)
    have g4 : V 4 = .int .i64 mm := hg 4 (by decide)
    have g6 : V 6 = .agg #[.int .i64 x.st.tick, .int .i64 x.st.clock, .int .i64 x.st.site, .int .i64 x.st.seq, .int .i64 x.kind, .int .i64 x.box.lo.x, .int .i64 x.box.lo.y, .int .i64 x.box.lo.z, .int .i64 x.box.hi.x, .int .i64 x.box.hi.y, .int .i64 x.box.hi.z, .int .i64 x.at_.x, .int .i64 x.at_.y, .int .i64 x.at_.z, .int .i64 x.turn, .int .i64 x.cell, .int .i64 x.size] := hg 6 (by decide)
    have g7 : V 7 = .int .i64 dd := hg 7 (by decide)
    have g8 : V 8 = .int .i64 mm := hg 8 (by decide)
    have g10 : V 10 = .bool true := hg 10 (by decide)
    have g11 : V 11 = .bool true := hg 11 (by decide)
    have g12 : V 12 = .bool true := hg 12 (by decide)
    have g13 : V 13 = .agg #[.int .i64 x.st.tick, .int .i64 x.st.clock, .int .i64 x.st.site, .int .i64 x.st.seq, .int .i64 x.kind, .int .i64 x.box.lo.x, .int .i64 x.box.lo.y, .int .i64 x.box.lo.z, .int .i64 x.box.hi.x, .int .i64 x.box.hi.y, .int .i64 x.box.hi.z, .int .i64 x.at_.x, .int .i64 x.at_.y, .int .i64 x.at_.z, .int .i64 x.turn, .int .i64 x.cell, .int .i64 x.size] := hg 13 (by decide)
    have g15 : V 15 = .agg #[.int .i64 x.st.tick, .int .i64 x.st.clock, .int .i64 x.st.site, .int .i64 x.st.seq, .int .i64 x.kind, .int .i64 x.box.lo.x, .int .i64 x.box.lo.y, .int .i64 x.box.lo.z, .int .i64 x.box.hi.x, .int .i64 x.box.hi.y, .int .i64 x.box.hi.z, .int .i64 x.at_.x, .int .i64 x.at_.y, .int .i64 x.at_.z, .int .i64 x.turn, .int .i64 x.cell, .int .i64 x.size] := hg 15 (by decide)
    have g17 : V 17 = .bool true := hg 17 (by decide)
    have g18 : V 18 = .bool true := hg 18 (by decide)
    have g19 : V 19 = .bool true := hg 19 (by decide)
    have g0 := hg 0 (by decide)
    have g5 := hg 5 (by decide)
    have g9 := hg 9 (by decide)
    have g14 := hg 14 (by decide)
    have g16 := hg 16 (by decide)
    simp only [List.length_cons, List.length_nil, fillAllN, dstOf, Act.put, List.getElem?_toArray, List.getElem?_cons_zero, List.getElem?_cons_succ, Option.bind_some, g1, g2, g3, g4, g6, g7, g8, g10, g11, g12, g13, g15, g17, g18, g19, List.setIfInBounds_toArray, List.set_cons_zero, List.set_cons_succ]
    clear g1 g2 g3 g4 g6 g7 g8 g10 g11 g12 g13 g15 g17 g18 g19 hg
    go_wp2_with fail
    go_ret
    exact ⟨rfl, HX0.out.trans hx⟩
end Go.Proofs.YtlinhgannajfpaaGreatDoor

/- EditChecksAsSpecified: for every input the law returns true, and each argument reads as it did. No condition. -/
namespace Go.Proofs.YtlinhgannajfpaaGreatDoor
open Go Go.RowKit Go.ChangeShapes Go.WideShapes Go.ChangeAt

set_option maxHeartbeats 1600000 in
set_option maxRecDepth 100000 in
theorem editChecksAsSpecified_lifted (os : Os) (started : os.Started) (H : Type) (enc : TypeId × Value → H) :
    ReturnsInHanded {} Tryz.checked os 3 .any (fun w args => (Rows.editChecksAsSpecifiedSpec.pre enc Tryz.prog Tryz.f3 Rows.editChecksAsSpecifiedRow.domain false w args ∧ laidMetH Tryz.prog laidL w) ∧ sizedMet enc Tryz.prog Tryz.f3 (OpenSpec.ofChange Rows.editChecksAsSpecifiedSpec) false w args) (Rows.editChecksAsSpecifiedSpec.post enc Tryz.prog Tryz.f3 false true false false) := by
  refine returnsInHanded_of_change_and (C := Tryz.checked) (X := fun w _ => laidMetH Tryz.prog laidL w) (fun _ _ _ hh h => h.of_heap hh) own_ started (by kernel_rfl) Tryz.func3
    (ChangeSpec.witness_shaped (enc := enc) (C := Tryz.checked) (os := os) (X := fun w _ => laidMetH Tryz.prog laidL w) false (World.laidAll Tryz.prog os laidL) #[.agg #[.int .i64 0, .int .i64 0, .int .i64 0, .int .i64 0, .int .i64 0, .int .i64 0, .int .i64 0, .int .i64 0, .int .i64 0, .int .i64 0, .int .i64 0, .int .i64 0, .int .i64 0, .int .i64 0, .int .i64 0, .int .i64 0, .int .i64 0], .int .i64 0, .int .i64 0] 8 (World.laidAll_os _ _ _) (World.shaped_of_ZipB (by kernel_rfl) (by kernel_rfl)) (by kernel_rfl) (by kernel_rfl) (by kernel_rfl)
      (by rw [MakeChecks.laidMetH_plain _ _ _ (by kernel_rfl)]; exact laidMet_laidAll _ (by kernel_rfl) (by kernel_rfl))) ?_
  intro W base args ds gs before hval0 hW hcnd _ hLd _
  have hval : ∀ (j : Nat) t v, Tryz.f3.params[j]? = some t → args[j]? = some v → Value.okWide Tryz.prog W .any base t v := hval0
  have hLd := laid_of hLd
  have hW' := hW
  obtain ⟨p, q, hA0, hV, rfl, hfz, hnd⟩ := hW
  have hA : DataW.TrodAll enc Tryz.prog W 0 (fun _ => true) true Tryz.f3.params.toList args.toList ds p := hA0
  have hAll := hA
  rw [Tryz.params3] at hA hval
  obtain ⟨v0, vs0, d0, ds0, p0, q0, ha, rfl, rfl, h0, r0⟩ := trodAll_cons hA
  obtain ⟨v1, vs1, d1, ds1, p1, q1, rfl, rfl, rfl, h1, r1⟩ := trodAll_cons r0
  obtain ⟨v2, vs2, d2, ds2, p2, q2, rfl, rfl, rfl, h2, r2⟩ := trodAll_cons r1
  obtain ⟨rfl, rfl, rfl⟩ := trodAll_nil r2
  obtain ⟨rfl, rfl⟩ := trodVars_none hV
  have hargs : args = #[v0, v1, v2] := by apply Array.ext'; exact ha
  subst hargs
  obtain ⟨x, rfl, hf⟩ := read_Ed (hval 0 _ _ rfl rfl) h0
  obtain ⟨d, rfl, rfl, rfl, _⟩ := open_int Tryz.underlying3 (hval 1 _ _ rfl rfl) h1
  obtain ⟨m, rfl, rfl, rfl, _⟩ := open_int Tryz.underlying3 (hval 2 _ _ rfl rfl) h2
  refine (EditChecksAsSpecified_any x (fits_of hf) d m W hLd).mono fun e W' ⟨he, hx⟩ => ?_
  subst he
  have hlt : ∀ x, x ∈ (p0 ++ ([] ++ ([] ++ []))) → x.block < W.heap.size := fun x hx2 => hW'.lt x (by simpa using hx2)
  exact ⟨_, rfl, _, _, _, [], _, [], hW', trodAll_mk1 (shut_bool Tryz.underlying4 true), args_below laidOut_ _ _ _ _ W' (by rw [Tryz.params3]; intro t ht; simp at ht; rcases ht with rfl | rfl <;> exact ⟨by kernel_rfl, of_decide_eq_true (by kernel_rfl)⟩) hAll hx.below hlt, rfl, hx.below.frame _, fun h => by cases h⟩

theorem editChecksAsSpecified_row : Rows.EditChecksAsSpecifiedSaid :=
  OpenClaim.holds_of_wide 3 Tryz.f3 rfl rfl rfl rfl rfl rfl rfl ⟨rfl, rfl, rfl, rfl, rfl⟩ rfl rfl rfl rfl rfl (by kernel_rfl) Tryz.func3 (by kernel_rfl)
    (of_decide_eq_true (by kernel_rfl)) (by unfold Func.isWrapper; rw [if_neg (of_decide_eq_false (by kernel_rfl))]; exact ⟨rfl, rfl⟩)
    (fun os started H enc _ => editChecksAsSpecified_lifted os started H enc)

theorem editChecksAsSpecified_holds : Rows.EditChecksAsSpecifiedCardSaid :=
  Claim7.holds_tied_plain_at .later [] [.data, .data, .data, .data] true Rows.editChecksAsSpecifiedCard.stood.harness false
    editChecksAsSpecified_row (fun _ h => by cases h) (by kernel_rfl) (fun _ h => by cases h) editChecksAsSpecified_row_tie rfl ⟨rfl, rfl⟩ (by kernel_rfl) rfl
    (fun f fn hf hfn => by
      obtain rfl : f = 3 := Option.some.inj ((show Tryz.prog.funcNamed "voxel/voxellaw25.EditChecksAsSpecified" = some 3 by kernel_rfl).symm.trans hf) |>.symm
      obtain rfl : fn = Tryz.f3 := (Option.some.inj (Tryz.func3.symm.trans hfn)).symm
      exact ⟨by kernel_rfl, fun j t ht => by
        rw [Tryz.params3] at ht
        have hm : t ∈ [29, 3, 3] := by simpa using Array.mem_of_getElem? ht
        have hall : ([29, 3, 3].all fun u => !Tryz.prog.wantsStandIn u) = true := by kernel_rfl
        exact (show Tryz.prog.wantsStandIn t = false by simpa using List.all_eq_true.1 hall t hm)⟩)
    (by kernel_rfl)
end Go.Proofs.YtlinhgannajfpaaGreatDoor
