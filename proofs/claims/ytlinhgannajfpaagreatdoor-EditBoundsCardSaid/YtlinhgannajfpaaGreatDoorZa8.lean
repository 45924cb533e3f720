/- YtlinhgannajfpaaGreatDoorUp · YtlinhgannajfpaaGreatDoorUq · YtlinhgannajfpaaGreatDoorUr · YtlinhgannajfpaaGreatDoorAx · YtlinhgannajfpaaGreatDoorCpE · YtlinhgannajfpaaGreatDoorCpN · YtlinhgannajfpaaGreatDoorCe · YtlinhgannajfpaaGreatDoorCf · YtlinhgannajfpaaGreatDoorSo · The shelf's layings at this program, in plain declarations: carried over by names (remap_sh.py). · YtlinhgannajfpaaGreatDoorSrt · YtlinhgannajfpaaGreatDoorUs -/
import Derived.Deep.DeepCutAuto
import Derived.Shelf.SlSortCmp.NoneTotal
import Derived.Shelf.SlSortCmp.QuietGrown
import Derived.Shelf.SlicesE.Clone
import Derived.Ground.SlsfProg
import Derived.Ground.SlgnProg
import Derived.Shelf.SlGeneric
import Derived.Test.YtlinhgannajfpaaGreatDoorProg
import Derived.Test.YtlinhgannajfpaaGreatDoorZa7
/- The reference's Decode. -/
namespace Go.Proofs.YtlinhgannajfpaaGreatDoor
open Go Go.RowKit

structure DecR (x : Ed) (z : List Value) (w : World) (g n7 : Nat) (cs : List Value) (W : World) : Prop where
 B : Arr W w.heap.size 29 z
 A : Arr W n7 29 cs
 Q : ∀ (j : Nat) v, x.cells[j]? = some v → W.cell? ⟨g, j, none⟩ = some v
 X : Ext w W
theorem DecR.ext2 {x : Ed} {z cs : List Value} {w W W' : World} {g n7 : Nat} (h : DecR x z w g n7 cs W) (hx : Ext W W') : DecR x z w g n7 cs W' :=
 ⟨h.B.ext hx, h.A.ext hx, fun j v hv => (hx.cell (p := ⟨g, j, none⟩) (World.block_lt_of_cell? W _ (h.Q j v hv))).trans (h.Q j v hv), h.X.trans hx⟩
theorem DecR.store {x : Ed} {z cs : List Value} {w W : World} {g n7 : Nat} (h : DecR x z w g n7 cs W) (h1 : w.heap.size < n7) (h2 : g < n7) (off : Nat) (vs cnew : List Value) (hc : splice cs off vs = cnew) (hl : off + vs.length ≤ cs.length) : DecR x z w g n7 cnew (W.setCells n7 off vs) :=
 ⟨Arr.setCells_other (by omega) vs off h.B, by rw [← hc]; exact h.A.setCells vs off hl, fun j v hv => by rw [World.cell?_setCells_out n7 vs off W ⟨g, j, none⟩ (fun e => absurd e (by simp only; omega))]; exact h.Q j v hv, Ext.setCells (by omega) vs off h.X⟩
set_option maxHeartbeats 16000000 in
set_option maxRecDepth 100000 in
theorem refDecode_any (b : List UInt8) (hl : b.length ≤ 1000000) (A : Option Addr) (c : Nat) (w : World) (hs : Sv w w.heap.size 1 A c (rowsB b)) :
    Calls Tryz.prog 30 #[.slice A b.length c] w (RetD (decE b) w) := by
 have hm := mixed
 have hG := near_old
 obtain ⟨W0, hW⟩ : ∃ W, W = w.alloc (.cells #[.int .i64 0, .int .i64 0, .int .i64 0, .int .i64 0, .int .i64 0, .int .i64 0, .int .i64 0, .int .i64 0, .int .i64 0, .int .i64 0, .int .i64 0, .int .i64 0, .int .i64 0, .int .i64 0, .int .i64 0, .int .i64 0, .int .i64 0] 29) := ⟨_, rfl⟩
 have HX0 := Lib.hid (show Ext w W0 by rw [hW]; exact (Ext.refl w).alloc _)
 have HB0 := Lib.hid (show Arr W0 w.heap.size 29 [.int .i64 0, .int .i64 0, .int .i64 0, .int .i64 0, .int .i64 0, .int .i64 0, .int .i64 0, .int .i64 0, .int .i64 0, .int .i64 0, .int .i64 0, .int .i64 0, .int .i64 0, .int .i64 0, .int .i64 0, .int .i64 0, .int .i64 0] by rw [hW]; exact Arr.new w _ [.int .i64 0, .int .i64 0, .int .i64 0, .int .i64 0, .int .i64 0, .int .i64 0, .int .i64 0, .int .i64 0, .int .i64 0, .int .i64 0, .int .i64 0, .int .i64 0, .int .i64 0, .int .i64 0, .int .i64 0, .int .i64 0, .int .i64 0])
 have HG := Lib.hid (refGetInts_any b (by omega) A c W0 (hs.ext HX0.out))
 clear hs
 cases hr : getL b with
 | inl er =>
   have HD := Lib.hid (show decE b = (zeroE, eno er) by unfold decE; rw [hr])
   have hq := eno_two er
   have HG2 := Lib.hid (show Calls Tryz.prog 77 #[.slice A b.length c] W0 fun e w' => e = .returned (.tuple #[.slice none 0 0, .int .i64 0, .int .i64 (eno er)]) ∧ Ext W0 w' from HG.out.mono fun e w' h => by unfold RetL at h; rw [hr] at h; exact h)
   obtain ⟨q, hqe⟩ : ∃ q, q = eno er := ⟨_, rfl⟩
   rw [← hqe] at hq HG2
   rw [← hqe] at HD
   rw [HD.out]
   clear hr HG hqe
   rcases hq with rfl | rfl
   all_goals
    go_enter Tryz.func30, Tryz.ntmps30
    go_upto_region 1 with fail
    rw [← hW]
    clear hW
    go_upto_region 2 with (go_at_call 77; refine HG2.out.mono ?_; rintro e W1 ⟨rfl, hx1⟩; have HX2 := Lib.hid (HX0.out.trans hx1); have HB2 := Lib.hid (HB0.out.ext hx1); clear hx1)
    go_wp2_with (refine wpList_store_blk2 29 (.tmp 2) (.tmp 17) rfl rfl HB2.out [.int .i64 0, .int .i64 0, .int .i64 0, .int .i64 0, .int .i64 0, .int .i64 0, .int .i64 0, .int .i64 0, .int .i64 0, .int .i64 0, .int .i64 0, .int .i64 0, .int .i64 0, .int .i64 0, .int .i64 0, .int .i64 0, .int .i64 0] rfl rfl (by kernel_rfl) rfl rfl rfl ?_; intro W9 hW9; have HB9 := Lib.hid (show Arr W9 w.heap.size 29 [.int .i64 0, .int .i64 0, .int .i64 0, .int .i64 0, .int .i64 0, .int .i64 0, .int .i64 0, .int .i64 0, .int .i64 0, .int .i64 0, .int .i64 0, .int .i64 0, .int .i64 0, .int .i64 0, .int .i64 0, .int .i64 0, .int .i64 0] by rw [hW9]; exact HB2.out.setRow _); have HX9 := Lib.hid (show Ext w W9 by rw [hW9]; exact HX2.out.setRow (Nat.le_refl _) _); clear hW9)
    refine bodyPost_ret (v := .tuple #[.agg #[.int .i64 zeroE.st.tick, .int .i64 zeroE.st.clock, .int .i64 zeroE.st.site, .int .i64 zeroE.st.seq, .int .i64 zeroE.kind, .int .i64 zeroE.box.lo.x, .int .i64 zeroE.box.lo.y, .int .i64 zeroE.box.lo.z, .int .i64 zeroE.box.hi.x, .int .i64 zeroE.box.hi.y, .int .i64 zeroE.box.hi.z, .int .i64 zeroE.at_.x, .int .i64 zeroE.at_.y, .int .i64 zeroE.at_.z, .int .i64 zeroE.turn, .int .i64 zeroE.cell, .int .i64 zeroE.size], .int .i64 _]) ?_ rfl ⟨rfl, HX9.out⟩
    exact results_cell_row2 Tryz.results30 _ _ _ _ _ _ _ rfl (HB9.out) Tryz.underlying29 rfl (by kernel_rfl)
 | inr lk =>
   obtain ⟨l, k⟩ := lk
   have HG2 := Lib.hid (show Calls Tryz.prog 77 #[.slice A b.length c] W0 fun e w' => ∃ A c, e = .returned (.tuple #[.slice A l.length c, .int .i64 (k : Int), .int .i64 0]) ∧ w'.ownsRow W0.heap.size 3 1 (.slice A l.length c) l.length (rowsI l).flatten ∧ Ext W0 w' from HG.out.mono fun e w' h => by unfold RetL at h; rw [hr] at h; exact h)
   have hkb := (getL_back hr).1
   have HLK := Lib.hid hr
   clear HG
   by_cases hbad : k ≠ b.length ∨ l.length ≠ 17
   · have HD := Lib.hid (show decE b = (zeroE, 6) by unfold decE; rw [hr]; simp only; rw [if_pos hbad])
     rw [HD.out]
     clear hr
     have hll : l.length ≤ 1000000000 := by
      obtain ⟨_, h2, _⟩ := getL_back HLK.out
      have h3 := congrArg List.length h2
      have h4 := flat_len_ge l
      unfold encL at h3
      rw [List.length_take, List.length_append] at h3
      omega
     rcases (show k ≠ b.length ∨ (k = b.length ∧ l.length ≠ 17) by omega) with h1 | ⟨h1, h2⟩
     · have hkn : ((k : Int) != (b.length : Int)) = true := bne_iff_ne.2 (by omega)
       clear hbad
       go_enter Tryz.func30, Tryz.ntmps30
       go_upto_region 1 with fail
       rw [← hW]
       clear hW
       go_upto_region 2 with (go_at_call 77; refine HG2.out.mono ?_; rintro e W1 ⟨A1, c1, rfl, ho1, hx1⟩; have HX2 := Lib.hid (HX0.out.trans hx1); have HB2 := Lib.hid (HB0.out.ext hx1); clear ho1 hx1)
       go_wp2_with (refine wpList_store_blk2 29 (.tmp 2) (.tmp 28) rfl rfl HB2.out [.int .i64 0, .int .i64 0, .int .i64 0, .int .i64 0, .int .i64 0, .int .i64 0, .int .i64 0, .int .i64 0, .int .i64 0, .int .i64 0, .int .i64 0, .int .i64 0, .int .i64 0, .int .i64 0, .int .i64 0, .int .i64 0, .int .i64 0] rfl rfl (by kernel_rfl) rfl rfl rfl ?_; intro W9 hW9; have HB9 := Lib.hid (show Arr W9 w.heap.size 29 [.int .i64 0, .int .i64 0, .int .i64 0, .int .i64 0, .int .i64 0, .int .i64 0, .int .i64 0, .int .i64 0, .int .i64 0, .int .i64 0, .int .i64 0, .int .i64 0, .int .i64 0, .int .i64 0, .int .i64 0, .int .i64 0, .int .i64 0] by rw [hW9]; exact HB2.out.setRow _); have HX9 := Lib.hid (show Ext w W9 by rw [hW9]; exact HX2.out.setRow (Nat.le_refl _) _); clear hW9)
       all_goals
        refine bodyPost_ret (v := .tuple #[.agg #[.int .i64 zeroE.st.tick, .int .i64 zeroE.st.clock, .int .i64 zeroE.st.site, .int .i64 zeroE.st.seq, .int .i64 zeroE.kind, .int .i64 zeroE.box.lo.x, .int .i64 zeroE.box.lo.y, .int .i64 zeroE.box.lo.z, .int .i64 zeroE.box.hi.x, .int .i64 zeroE.box.hi.y, .int .i64 zeroE.box.hi.z, .int .i64 zeroE.at_.x, .int .i64 zeroE.at_.y, .int .i64 zeroE.at_.z, .int .i64 zeroE.turn, .int .i64 zeroE.cell, .int .i64 zeroE.size], .int .i64 6]) ?_ rfl ⟨rfl, HX9.out⟩
        exact results_cell_row2 Tryz.results30 _ _ _ _ _ _ _ rfl (HB9.out) Tryz.underlying29 rfl (by kernel_rfl)
     · have hkn : ((k : Int) != (b.length : Int)) = false := bne_eq_false_iff_eq.2 (by omega)
       have hln : ((l.length : Int) != 17) = true := bne_iff_ne.2 (by omega)
       clear hbad
       go_enter Tryz.func30, Tryz.ntmps30
       go_upto_region 1 with fail
       rw [← hW]
       clear hW
       go_upto_region 2 with (go_at_call 77; refine HG2.out.mono ?_; rintro e W1 ⟨A1, c1, rfl, ho1, hx1⟩; have HX2 := Lib.hid (HX0.out.trans hx1); have HB2 := Lib.hid (HB0.out.ext hx1); clear ho1 hx1)
       go_wp2_with (refine wpList_store_blk2 29 (.tmp 2) (.tmp 28) rfl rfl HB2.out [.int .i64 0, .int .i64 0, .int .i64 0, .int .i64 0, .int .i64 0, .int .i64 0, .int .i64 0, .int .i64 0, .int .i64 0, .int .i64 0, .int .i64 0, .int .i64 0, .int .i64 0, .int .i64 0, .int .i64 0, .int .i64 0, .int .i64 0] rfl rfl (by kernel_rfl) rfl rfl rfl ?_; intro W9 hW9; have HB9 := Lib.hid (show Arr W9 w.heap.size 29 [.int .i64 0, .int .i64 0, .int .i64 0, .int .i64 0, .int .i64 0, .int .i64 0, .int .i64 0, .int .i64 0, .int .i64 0, .int .i64 0, .int .i64 0, .int .i64 0, .int .i64 0, .int .i64 0, .int .i64 0, .int .i64 0, .int .i64 0] by rw [hW9]; exact HB2.out.setRow _); have HX9 := Lib.hid (show Ext w W9 by rw [hW9]; exact HX2.out.setRow (Nat.le_refl _) _); clear hW9)
       all_goals
        refine bodyPost_ret (v := .tuple #[.agg #[.int .i64 zeroE.st.tick, .int .i64 zeroE.st.clock, .int .i64 zeroE.st.site, .int .i64 zeroE.st.seq, .int .i64 zeroE.kind, .int .i64 zeroE.box.lo.x, .int .i64 zeroE.box.lo.y, .int .i64 zeroE.box.lo.z, .int .i64 zeroE.box.hi.x, .int .i64 zeroE.box.hi.y, .int .i64 zeroE.box.hi.z, .int .i64 zeroE.at_.x, .int .i64 zeroE.at_.y, .int .i64 zeroE.at_.z, .int .i64 zeroE.turn, .int .i64 zeroE.cell, .int .i64 zeroE.size], .int .i64 6]) ?_ rfl ⟨rfl, HX9.out⟩
        exact results_cell_row2 Tryz.results30 _ _ _ _ _ _ _ rfl (HB9.out) Tryz.underlying29 rfl (by kernel_rfl)
   · obtain ⟨rfl, hl17⟩ : k = b.length ∧ l.length = 17 := by omega
     obtain ⟨x, hx⟩ : ∃ x, x = edOf l := ⟨_, rfl⟩
     have hnx : numsE x = l := by rw [hx]; exact numsE_edOf hl17
     have HD := Lib.hid (show decE b = if formedE x then (x, 0) else (zeroE, 1) by unfold decE; rw [hr]; simp only; rw [if_neg hbad, hx])
     rw [HD.out]
     rw [← hnx] at HG2
     clear hr hbad hx hl17 HD hnx HLK
     have HG3 := Lib.hid (show Calls Tryz.prog 77 #[.slice A b.length c] W0 fun e w' => ∃ A c, e = .returned (.tuple #[.slice A 17 c, .int .i64 (b.length : Int), .int .i64 0]) ∧ w'.ownsRow W0.heap.size 3 1 (.slice A 17 c) 17 (rowsI (numsE x)).flatten ∧ Ext W0 w' from HG2.out)
     clear HG2
     go_enter Tryz.func30, Tryz.ntmps30
     go_upto_region 1 with fail
     rw [← hW]
     clear hW
     go_upto_region 2 with (go_at_call 77; refine HG3.out.mono ?_; rintro e W2 ⟨A1, c1, rfl, ho1, hx1⟩; have HX2 := Lib.hid (HX0.out.trans hx1); have HB2 := Lib.hid (HB0.out.ext hx1); have HO1 := Lib.hid ho1; clear ho1 hx1)
     have hn0 := HB2.out.lt
     obtain ⟨g, hA1, hcell, hgl, hc17⟩ : ∃ g, A1 = some ⟨g, 0, none⟩ ∧ (∀ (j : Nat) v, x.cells[j]? = some v → W2.cell? ⟨g, j, none⟩ = some v) ∧ g < W2.heap.size ∧ 17 ≤ c1 := by
      rcases HO1.out.2 with ⟨h1, h2⟩ | ⟨g, cap, cur, h1, hbg, hg, hnc, hcm, hcs, htake⟩
      · omega
      · injection h1 with h1 h2 h3
        subst h3
        refine ⟨g, h1, fun j v hv => ?_, (Array.getElem?_eq_some_iff.1 hg).1, hnc⟩
        rw [cell_of_row _ _ _ _ _ _ hg]
        have hj : j < 17 := (List.getElem?_eq_some_iff.1 hv).1
        have h5 : (cur.toList.take (17 * 1))[j]? = some v := by rw [htake]; exact hv
        rw [List.getElem?_take, if_pos (by omega)] at h5
        simpa using h5
     subst hA1
     have HGL := Lib.hid hgl
     have QC := Lib.hid (fun (w1 : World) (hx : Ext W2 w1) (j : Nat) v (hv : x.cells[j]? = some v) => (hx.cell (p := ⟨g, j, none⟩) HGL.out).trans (hcell j v hv))
     clear hcell HO1
     have e17 : ((b.length : Int) != (b.length : Int)) = false := bne_eq_false_iff_eq.2 rfl
     go_upto_region 6 with fail
     clear e17
     refine wp_region_box2 (w := W2) (fun i => match i with | 0 => .slice (some ⟨g, 0, none⟩) 17 c1 | 1 => .pointer (some ⟨g, 4, none⟩) | 2 => .int .i64 x.kind | 3 => .slice (some ⟨g, 0, none⟩) 17 c1 | 4 => .pointer (some ⟨g, 14, none⟩) | 5 => .int .i64 x.turn | 6 => .slice (some ⟨g, 0, none⟩) 17 c1 | 7 => .pointer (some ⟨g, 15, none⟩) | 8 => .int .i64 x.cell | 9 => .slice (some ⟨g, 0, none⟩) 17 c1 | 10 => .pointer (some ⟨g, 16, none⟩) | 11 => .int .i64 x.size | 12 => .agg #[.int .i64 0, .int .i64 0, .int .i64 0, .int .i64 0, .int .i64 x.kind, .int .i64 0, .int .i64 0, .int .i64 0, .int .i64 0, .int .i64 0, .int .i64 0, .int .i64 0, .int .i64 0, .int .i64 0, .int .i64 x.turn, .int .i64 x.cell, .int .i64 x.size] | _ => undef) 13 29 7 41 12 [.int .i64 0, .int .i64 0, .int .i64 0, .int .i64 0, .int .i64 0, .int .i64 0, .int .i64 0, .int .i64 0, .int .i64 0, .int .i64 0, .int .i64 0, .int .i64 0, .int .i64 0, .int .i64 0, .int .i64 0, .int .i64 0, .int .i64 0] [.int .i64 0, .int .i64 0, .int .i64 0, .int .i64 0, .int .i64 x.kind, .int .i64 0, .int .i64 0, .int .i64 0, .int .i64 0, .int .i64 0, .int .i64 0, .int .i64 0, .int .i64 0, .int .i64 0, .int .i64 x.turn, .int .i64 x.cell, .int .i64 x.size] hm (by kernel_rfl) (by kernel_rfl) (noGuardD (by kernel_rfl)) rfl ⟨_, rfl, rfl, rfl⟩ ⟨_, rfl, rfl, rfl, ⟨⟨13, .data⟩, by simp, rfl, rfl⟩, ⟨⟨12, .data⟩, by simp, rfl, rfl⟩⟩ (by decide) rfl (by simp) (by simp) rfl infoE1 (by kernel_rfl) rfl rfl ?_ ?_
     · intro listed w1 i o ho hin hdep hx b K E0 E1 hK
       match i, ho with
       | 0, ho =>
         obtain rfl := Option.some.inj ho
         have e := E0 4 (by kernel_rfl)
         simp only [List.getElem?_toArray, List.getElem?_cons_zero, List.getElem?_cons_succ] at e
         exact op_move rfl (eval_of e) (hK w1 (Ext.refl _))
       | 1, ho =>
         obtain rfl := Option.some.inj ho
         have e0 := E1 0 29 (by decide) (getD_up (hdep ⟨0, .data⟩ (by simp) rfl)) rfl (by simp)
         exact op_run (v := .pointer (some ⟨g, 4, none⟩)) (w2 := w1) (by unfold execOp; simp [e0, Act.eval, go_sem]) (hK w1 (Ext.refl _))
       | 2, ho =>
         obtain rfl := Option.some.inj ho
         have e1 := E1 1 30 (by decide) (getD_up (hdep ⟨1, .data⟩ (by simp) rfl)) rfl (by simp)
         exact op_run (v := .int .i64 x.kind) (w2 := w1) (by unfold execOp; simp [e1, Act.eval, go_sem, QC.out w1 hx 4 (.int .i64 x.kind) rfl]) (hK w1 (Ext.refl _))
       | 3, ho =>
         obtain rfl := Option.some.inj ho
         have e := E0 4 (by kernel_rfl)
         simp only [List.getElem?_toArray, List.getElem?_cons_zero, List.getElem?_cons_succ] at e
         exact op_move rfl (eval_of e) (hK w1 (Ext.refl _))
       | 4, ho =>
         obtain rfl := Option.some.inj ho
         have e3 := E1 3 32 (by decide) (getD_up (hdep ⟨3, .data⟩ (by simp) rfl)) rfl (by simp)
         exact op_run (v := .pointer (some ⟨g, 14, none⟩)) (w2 := w1) (by unfold execOp; simp [e3, Act.eval, go_sem]) (hK w1 (Ext.refl _))
       | 5, ho =>
         obtain rfl := Option.some.inj ho
         have e4 := E1 4 33 (by decide) (getD_up (hdep ⟨4, .data⟩ (by simp) rfl)) rfl (by simp)
         exact op_run (v := .int .i64 x.turn) (w2 := w1) (by unfold execOp; simp [e4, Act.eval, go_sem, QC.out w1 hx 14 (.int .i64 x.turn) rfl]) (hK w1 (Ext.refl _))
       | 6, ho =>
         obtain rfl := Option.some.inj ho
         have e := E0 4 (by kernel_rfl)
         simp only [List.getElem?_toArray, List.getElem?_cons_zero, List.getElem?_cons_succ] at e
         exact op_move rfl (eval_of e) (hK w1 (Ext.refl _))
       | 7, ho =>
         obtain rfl := Option.some.inj ho
         have e6 := E1 6 35 (by decide) (getD_up (hdep ⟨6, .data⟩ (by simp) rfl)) rfl (by simp)
         exact op_run (v := .pointer (some ⟨g, 15, none⟩)) (w2 := w1) (by unfold execOp; simp [e6, Act.eval, go_sem]) (hK w1 (Ext.refl _))
       | 8, ho =>
         obtain rfl := Option.some.inj ho
         have e7 := E1 7 36 (by decide) (getD_up (hdep ⟨7, .data⟩ (by simp) rfl)) rfl (by simp)
         exact op_run (v := .int .i64 x.cell) (w2 := w1) (by unfold execOp; simp [e7, Act.eval, go_sem, QC.out w1 hx 15 (.int .i64 x.cell) rfl]) (hK w1 (Ext.refl _))
       | 9, ho =>
         obtain rfl := Option.some.inj ho
         have e := E0 4 (by kernel_rfl)
         simp only [List.getElem?_toArray, List.getElem?_cons_zero, List.getElem?_cons_succ] at e
         exact op_move rfl (eval_of e) (hK w1 (Ext.refl _))
       | 10, ho =>
         obtain rfl := Option.some.inj ho
         have e9 := E1 9 38 (by decide) (getD_up (hdep ⟨9, .data⟩ (by simp) rfl)) rfl (by simp)
         exact op_run (v := .pointer (some ⟨g, 16, none⟩)) (w2 := w1) (by unfold execOp; simp [e9, Act.eval, go_sem]) (hK w1 (Ext.refl _))
       | 11, ho =>
         obtain rfl := Option.some.inj ho
         have e10 := E1 10 39 (by decide) (getD_up (hdep ⟨10, .data⟩ (by simp) rfl)) rfl (by simp)
         exact op_run (v := .int .i64 x.size) (w2 := w1) (by unfold execOp; simp [e10, Act.eval, go_sem, QC.out w1 hx 16 (.int .i64 x.size) rfl]) (hK w1 (Ext.refl _))
       | 12, ho =>
         obtain rfl := Option.some.inj ho
         have e2 := E1 2 31 (by decide) (getD_up (hdep ⟨2, .data⟩ (by simp) rfl)) rfl (by simp)
         have e5 := E1 5 34 (by decide) (getD_up (hdep ⟨5, .data⟩ (by simp) rfl)) rfl (by simp)
         have e8 := E1 8 37 (by decide) (getD_up (hdep ⟨8, .data⟩ (by simp) rfl)) rfl (by simp)
         have e11 := E1 11 40 (by decide) (getD_up (hdep ⟨11, .data⟩ (by simp) rfl)) rfl (by simp)
         exact op_run (v := .agg #[.int .i64 0, .int .i64 0, .int .i64 0, .int .i64 0, .int .i64 x.kind, .int .i64 0, .int .i64 0, .int .i64 0, .int .i64 0, .int .i64 0, .int .i64 0, .int .i64 0, .int .i64 0, .int .i64 0, .int .i64 x.turn, .int .i64 x.cell, .int .i64 x.size]) (w2 := w1) (by unfold execOp; simp [e2, e5, e8, e11, Act.eval, go_sem]) (hK w1 (Ext.refl _))
       | i + 13, ho => omega
     · intro n7 W3 hx hn7 A7
       simp only [List.length_cons, List.length_nil, fillAllN, dstOf, Act.put, List.getElem?_toArray, List.getElem?_cons_zero, List.getElem?_cons_succ, Option.bind_some, List.setIfInBounds_toArray, List.set_cons_zero, List.set_cons_succ, boxV, Nat.lt_irrefl, if_false, if_true, Nat.reduceLT, Nat.reduceEqDiff, Nat.reduceAdd]
       have hgn : g < n7 := Nat.lt_of_lt_of_le hgl hn7
       have hnn : w.heap.size < n7 := Nat.lt_of_lt_of_le hn0 hn7
       have HD3 := Lib.hid (DecR.mk (HB2.out.ext hx) A7 (fun j v hv => QC.out W3 hx j v hv) (HX2.out.trans hx) : DecR x [.int .i64 0, .int .i64 0, .int .i64 0, .int .i64 0, .int .i64 0, .int .i64 0, .int .i64 0, .int .i64 0, .int .i64 0, .int .i64 0, .int .i64 0, .int .i64 0, .int .i64 0, .int .i64 0, .int .i64 0, .int .i64 0, .int .i64 0] w g n7 [.int .i64 0, .int .i64 0, .int .i64 0, .int .i64 0, .int .i64 x.kind, .int .i64 0, .int .i64 0, .int .i64 0, .int .i64 0, .int .i64 0, .int .i64 0, .int .i64 0, .int .i64 0, .int .i64 0, .int .i64 x.turn, .int .i64 x.cell, .int .i64 x.size] W3)
       clear hx hn7 A7 QC HB2 HX2 hgl hn0
       have q0 := HD3.out.Q 0 _ rfl
       have q1 := HD3.out.Q 1 _ rfl
       have q2 := HD3.out.Q 2 _ rfl
       have q3 := HD3.out.Q 3 _ rfl
       have lg := World.block_lt_of_cell? _ _ q0
       go_upto_region 7 with fail
       refine wp_region_near_tail 14 (by assumption) (by kernel_rfl) ?_
       simp only [List.take_succ_cons, List.take_zero, List.drop_succ_cons, List.drop_zero]
       repeat (go_big_quiet_step (fail))
       refine wpQuiet_nil ?_
       intro w1 hw1
       have hy := Ext.of_near hw1
       clear hw1
       have HD3a := Lib.hid (HD3.out.ext2 hy)
       clear hy lg HD3 q0 q1 q2 q3
       go_upto_region 8 with
        (refine wpList_store_part 23 (.tmp 55) (.tmp 54) rfl rfl rfl HD3a.out.A 0 [.int .i64 x.st.tick, .int .i64 x.st.clock, .int .i64 x.st.site, .int .i64 x.st.seq] rfl rfl (by simp) (by kernel_rfl) rfl ?_; intro W4 hW4;
         have HD4 := Lib.hid (show DecR x [.int .i64 0, .int .i64 0, .int .i64 0, .int .i64 0, .int .i64 0, .int .i64 0, .int .i64 0, .int .i64 0, .int .i64 0, .int .i64 0, .int .i64 0, .int .i64 0, .int .i64 0, .int .i64 0, .int .i64 0, .int .i64 0, .int .i64 0] w g n7 [.int .i64 x.st.tick, .int .i64 x.st.clock, .int .i64 x.st.site, .int .i64 x.st.seq, .int .i64 x.kind, .int .i64 0, .int .i64 0, .int .i64 0, .int .i64 0, .int .i64 0, .int .i64 0, .int .i64 0, .int .i64 0, .int .i64 0, .int .i64 x.turn, .int .i64 x.cell, .int .i64 x.size] W4 by rw [hW4]; exact HD3a.out.store hnn hgn 0 [.int .i64 x.st.tick, .int .i64 x.st.clock, .int .i64 x.st.site, .int .i64 x.st.seq] [.int .i64 x.st.tick, .int .i64 x.st.clock, .int .i64 x.st.site, .int .i64 x.st.seq, .int .i64 x.kind, .int .i64 0, .int .i64 0, .int .i64 0, .int .i64 0, .int .i64 0, .int .i64 0, .int .i64 0, .int .i64 0, .int .i64 0, .int .i64 x.turn, .int .i64 x.cell, .int .i64 x.size] rfl (by simp));
         clear hW4)
       clear HD3a
       have q5 := HD4.out.Q 5 _ rfl
       have q6 := HD4.out.Q 6 _ rfl
       have q7 := HD4.out.Q 7 _ rfl
       have q8 := HD4.out.Q 8 _ rfl
       have q9 := HD4.out.Q 9 _ rfl
       have q10 := HD4.out.Q 10 _ rfl
       have lg := World.block_lt_of_cell? _ _ q5
       go_upto_region 8 with fail
       refine wp_region_near_tail 22 (by assumption) (by kernel_rfl) ?_
       simp only [List.take_succ_cons, List.take_zero, List.drop_succ_cons, List.drop_zero]
       repeat (go_big_quiet_step (fail))
       refine wpQuiet_nil ?_
       intro w1 hw1
       have hy := Ext.of_near hw1
       clear hw1
       have HD4a := Lib.hid (HD4.out.ext2 hy)
       clear hy lg HD4 q5 q6 q7 q8 q9 q10
       go_upto_region 9 with
        (refine wpList_store_part 27 (.tmp 77) (.tmp 76) rfl rfl rfl HD4a.out.A 5 [.int .i64 x.box.lo.x, .int .i64 x.box.lo.y, .int .i64 x.box.lo.z, .int .i64 x.box.hi.x, .int .i64 x.box.hi.y, .int .i64 x.box.hi.z] rfl rfl (by simp) (by kernel_rfl) rfl ?_; intro W5 hW5;
         have HD5 := Lib.hid (show DecR x [.int .i64 0, .int .i64 0, .int .i64 0, .int .i64 0, .int .i64 0, .int .i64 0, .int .i64 0, .int .i64 0, .int .i64 0, .int .i64 0, .int .i64 0, .int .i64 0, .int .i64 0, .int .i64 0, .int .i64 0, .int .i64 0, .int .i64 0] w g n7 [.int .i64 x.st.tick, .int .i64 x.st.clock, .int .i64 x.st.site, .int .i64 x.st.seq, .int .i64 x.kind, .int .i64 x.box.lo.x, .int .i64 x.box.lo.y, .int .i64 x.box.lo.z, .int .i64 x.box.hi.x, .int .i64 x.box.hi.y, .int .i64 x.box.hi.z, .int .i64 0, .int .i64 0, .int .i64 0, .int .i64 x.turn, .int .i64 x.cell, .int .i64 x.size] W5 by rw [hW5]; exact HD4a.out.store hnn hgn 5 [.int .i64 x.box.lo.x, .int .i64 x.box.lo.y, .int .i64 x.box.lo.z, .int .i64 x.box.hi.x, .int .i64 x.box.hi.y, .int .i64 x.box.hi.z] [.int .i64 x.st.tick, .int .i64 x.st.clock, .int .i64 x.st.site, .int .i64 x.st.seq, .int .i64 x.kind, .int .i64 x.box.lo.x, .int .i64 x.box.lo.y, .int .i64 x.box.lo.z, .int .i64 x.box.hi.x, .int .i64 x.box.hi.y, .int .i64 x.box.hi.z, .int .i64 0, .int .i64 0, .int .i64 0, .int .i64 x.turn, .int .i64 x.cell, .int .i64 x.size] rfl (by simp));
         clear hW5)
       clear HD4a
       have q11 := HD5.out.Q 11 _ rfl
       have q12 := HD5.out.Q 12 _ rfl
       have q13 := HD5.out.Q 13 _ rfl
       have lg := World.block_lt_of_cell? _ _ q11
       go_upto_region 9 with fail
       refine wp_region_near_tail 11 (by assumption) (by kernel_rfl) ?_
       simp only [List.take_succ_cons, List.take_zero, List.drop_succ_cons, List.drop_zero]
       repeat (go_big_quiet_step (fail))
       refine wpQuiet_nil ?_
       intro w1 hw1
       have hy := Ext.of_near hw1
       clear hw1
       have HD5a := Lib.hid (HD5.out.ext2 hy)
       clear hy lg HD5 q11 q12 q13
       go_upto_region 10 with
        (refine wpList_store_part 25 (.tmp 88) (.tmp 87) rfl rfl rfl HD5a.out.A 11 [.int .i64 x.at_.x, .int .i64 x.at_.y, .int .i64 x.at_.z] rfl rfl (by simp) (by kernel_rfl) rfl ?_; intro W6 hW6;
         have HD6 := Lib.hid (show DecR x [.int .i64 0, .int .i64 0, .int .i64 0, .int .i64 0, .int .i64 0, .int .i64 0, .int .i64 0, .int .i64 0, .int .i64 0, .int .i64 0, .int .i64 0, .int .i64 0, .int .i64 0, .int .i64 0, .int .i64 0, .int .i64 0, .int .i64 0] w g n7 [.int .i64 x.st.tick, .int .i64 x.st.clock, .int .i64 x.st.site, .int .i64 x.st.seq, .int .i64 x.kind, .int .i64 x.box.lo.x, .int .i64 x.box.lo.y, .int .i64 x.box.lo.z, .int .i64 x.box.hi.x, .int .i64 x.box.hi.y, .int .i64 x.box.hi.z, .int .i64 x.at_.x, .int .i64 x.at_.y, .int .i64 x.at_.z, .int .i64 x.turn, .int .i64 x.cell, .int .i64 x.size] W6 by rw [hW6]; exact HD5a.out.store hnn hgn 11 [.int .i64 x.at_.x, .int .i64 x.at_.y, .int .i64 x.at_.z] [.int .i64 x.st.tick, .int .i64 x.st.clock, .int .i64 x.st.site, .int .i64 x.st.seq, .int .i64 x.kind, .int .i64 x.box.lo.x, .int .i64 x.box.lo.y, .int .i64 x.box.lo.z, .int .i64 x.box.hi.x, .int .i64 x.box.hi.y, .int .i64 x.box.hi.z, .int .i64 x.at_.x, .int .i64 x.at_.y, .int .i64 x.at_.z, .int .i64 x.turn, .int .i64 x.cell, .int .i64 x.size] rfl (by simp));
         clear hW6)
       clear HD5a
       have HF := Lib.hid (refFormed_any x W6)
       have HA7 := Lib.hid HD6.out.A
       cases hf : formedE x
       · rw [hf] at HF
         rw [if_neg (by simp)]
         go_upto_region 12 with (first
          | (refine ldB 29 7 HA7.out Tryz.underlying29 ?_) | (refine ldB 29 7 (HA7.out.alloc _) Tryz.underlying29 ?_) | (refine ldB 29 7 ((HA7.out.alloc _).alloc _) Tryz.underlying29 ?_)
          | (go_at_call 14; refine HF.out.mono ?_; rintro e w2 ⟨rfl, hx2⟩; have HB2 := Lib.hid (HD6.out.B.ext hx2); have HX2 := Lib.hid (HD6.out.X.trans hx2); clear hx2))
         go_wp2_with (refine wpList_store_blk2 29 (.tmp 2) (.tmp 93) rfl rfl HB2.out [.int .i64 0, .int .i64 0, .int .i64 0, .int .i64 0, .int .i64 0, .int .i64 0, .int .i64 0, .int .i64 0, .int .i64 0, .int .i64 0, .int .i64 0, .int .i64 0, .int .i64 0, .int .i64 0, .int .i64 0, .int .i64 0, .int .i64 0] rfl rfl (by kernel_rfl) rfl rfl rfl ?_; intro W9 hW9; have HB9 := Lib.hid (show Arr W9 w.heap.size 29 [.int .i64 0, .int .i64 0, .int .i64 0, .int .i64 0, .int .i64 0, .int .i64 0, .int .i64 0, .int .i64 0, .int .i64 0, .int .i64 0, .int .i64 0, .int .i64 0, .int .i64 0, .int .i64 0, .int .i64 0, .int .i64 0, .int .i64 0] by rw [hW9]; exact HB2.out.setRow _); have HX9 := Lib.hid (show Ext w W9 by rw [hW9]; exact HX2.out.setRow (Nat.le_refl _) _); clear hW9)
         all_goals
          refine bodyPost_ret (v := .tuple #[.agg #[.int .i64 zeroE.st.tick, .int .i64 zeroE.st.clock, .int .i64 zeroE.st.site, .int .i64 zeroE.st.seq, .int .i64 zeroE.kind, .int .i64 zeroE.box.lo.x, .int .i64 zeroE.box.lo.y, .int .i64 zeroE.box.lo.z, .int .i64 zeroE.box.hi.x, .int .i64 zeroE.box.hi.y, .int .i64 zeroE.box.hi.z, .int .i64 zeroE.at_.x, .int .i64 zeroE.at_.y, .int .i64 zeroE.at_.z, .int .i64 zeroE.turn, .int .i64 zeroE.cell, .int .i64 zeroE.size], .int .i64 1]) ?_ rfl ⟨rfl, HX9.out⟩
          exact results_cell_row2 Tryz.results30 _ _ _ _ _ _ _ rfl (HB9.out) Tryz.underlying29 rfl (by kernel_rfl)
       · rw [hf] at HF
         rw [if_pos rfl]
         go_upto_region 13 with (first
          | (refine ldB 29 7 HA7.out Tryz.underlying29 ?_) | (refine ldB 29 7 (HA7.out.alloc _) Tryz.underlying29 ?_) | (refine ldB 29 7 ((HA7.out.alloc _).alloc _) Tryz.underlying29 ?_)
          | (go_at_call 14; refine HF.out.mono ?_; rintro e w2 ⟨rfl, hx2⟩; have HB2 := Lib.hid (HD6.out.B.ext hx2); have HX2 := Lib.hid (HD6.out.X.trans hx2); have HA9 := Lib.hid (HA7.out.ext hx2); clear hx2))
         go_wp2_with (first
          | (refine ldB 29 7 HA9.out Tryz.underlying29 ?_) | (refine ldB 29 7 (HA9.out.alloc _) Tryz.underlying29 ?_) | (refine ldB 29 7 ((HA9.out.alloc _).alloc _) Tryz.underlying29 ?_)
          | (refine wpList_store_blk2 29 (.tmp 2) (.tmp 94) rfl rfl HB2.out [.int .i64 x.st.tick, .int .i64 x.st.clock, .int .i64 x.st.site, .int .i64 x.st.seq, .int .i64 x.kind, .int .i64 x.box.lo.x, .int .i64 x.box.lo.y, .int .i64 x.box.lo.z, .int .i64 x.box.hi.x, .int .i64 x.box.hi.y, .int .i64 x.box.hi.z, .int .i64 x.at_.x, .int .i64 x.at_.y, .int .i64 x.at_.z, .int .i64 x.turn, .int .i64 x.cell, .int .i64 x.size] rfl rfl (by kernel_rfl) rfl rfl rfl ?_; intro W9 hW9; have HB9 := Lib.hid (show Arr W9 w.heap.size 29 [.int .i64 x.st.tick, .int .i64 x.st.clock, .int .i64 x.st.site, .int .i64 x.st.seq, .int .i64 x.kind, .int .i64 x.box.lo.x, .int .i64 x.box.lo.y, .int .i64 x.box.lo.z, .int .i64 x.box.hi.x, .int .i64 x.box.hi.y, .int .i64 x.box.hi.z, .int .i64 x.at_.x, .int .i64 x.at_.y, .int .i64 x.at_.z, .int .i64 x.turn, .int .i64 x.cell, .int .i64 x.size] by rw [hW9]; exact HB2.out.setRow _); have HX9 := Lib.hid (show Ext w W9 by rw [hW9]; exact HX2.out.setRow (Nat.le_refl _) _); clear hW9))
         all_goals
          refine bodyPost_ret (v := .tuple #[.agg #[.int .i64 x.st.tick, .int .i64 x.st.clock, .int .i64 x.st.site, .int .i64 x.st.seq, .int .i64 x.kind, .int .i64 x.box.lo.x, .int .i64 x.box.lo.y, .int .i64 x.box.lo.z, .int .i64 x.box.hi.x, .int .i64 x.box.hi.y, .int .i64 x.box.hi.z, .int .i64 x.at_.x, .int .i64 x.at_.y, .int .i64 x.at_.z, .int .i64 x.turn, .int .i64 x.cell, .int .i64 x.size], .int .i64 0]) ?_ rfl ⟨rfl, HX9.out⟩
          exact results_cell_row2 Tryz.results30 _ _ _ _ _ _ _ rfl (HB9.out) Tryz.underlying29 rfl (by kernel_rfl)
end Go.Proofs.YtlinhgannajfpaaGreatDoor

/- brush.BallBox and what it calls; ball, undo of the law. -/
namespace Go.Proofs.YtlinhgannajfpaaGreatDoor
open Go Go.RowKit

set_option maxHeartbeats 4000000 in
theorem isSizeB_any (n : Int) (w : World) : Calls Tryz.prog 89 #[.int .i64 n] w fun e w' => e = .returned (.bool (decide (1 ≤ n ∧ n ≤ 4096))) ∧ Ext w w' := by
 by_cases h1 : 1 ≤ n
 · go_enter Tryz.func89, Tryz.ntmps89
   go_wp2
   all_goals
    go_ret
    refine ⟨ret_bool ?_, Ext.refl _⟩
    rw [Bool.eq_iff_iff]
    simp
    try omega
 · go_enter Tryz.func89, Tryz.ntmps89
   go_wp2
   all_goals
    go_ret
    refine ⟨ret_bool ?_, Ext.refl _⟩
    rw [Bool.eq_iff_iff]
    simp
    try omega
def shiftB (b : Bx) (p : Pt) : Bx := ⟨addP b.lo p, addP b.hi p⟩
set_option maxHeartbeats 8000000 in
set_option maxRecDepth 100000 in
theorem Shift_any (b : Bx) (p : Pt) (w : World) : Calls Tryz.prog 122 #[.agg #[.int .i64 b.lo.x, .int .i64 b.lo.y, .int .i64 b.lo.z, .int .i64 b.hi.x, .int .i64 b.hi.y, .int .i64 b.hi.z], .agg #[.int .i64 p.x, .int .i64 p.y, .int .i64 p.z]] w fun e w' => e = .returned (.agg #[.int .i64 (shiftB b p).lo.x, .int .i64 (shiftB b p).lo.y, .int .i64 (shiftB b p).lo.z, .int .i64 (shiftB b p).hi.x, .int .i64 (shiftB b p).hi.y, .int .i64 (shiftB b p).hi.z]) ∧ Ext w w' := by
 have hm := mixed
 have hG := near_old
 obtain ⟨W0, hW⟩ : ∃ W, W = ((w.alloc (.cells #[.int .i64 b.lo.x, .int .i64 b.lo.y, .int .i64 b.lo.z, .int .i64 b.hi.x, .int .i64 b.hi.y, .int .i64 b.hi.z] 27)).alloc (.cells #[.int .i64 p.x, .int .i64 p.y, .int .i64 p.z] 25)).alloc (.cells #[.int .i64 0, .int .i64 0, .int .i64 0, .int .i64 0, .int .i64 0, .int .i64 0] 27) := ⟨_, rfl⟩
 have HX0 := Lib.hid (show Ext w W0 by rw [hW]; exact (((Ext.refl w).alloc _).alloc _).alloc _)
 have HB0 := Lib.hid (show Arr W0 w.heap.size 27 [.int .i64 b.lo.x, .int .i64 b.lo.y, .int .i64 b.lo.z, .int .i64 b.hi.x, .int .i64 b.hi.y, .int .i64 b.hi.z] by rw [hW]; exact ((Arr.new w _ [.int .i64 b.lo.x, .int .i64 b.lo.y, .int .i64 b.lo.z, .int .i64 b.hi.x, .int .i64 b.hi.y, .int .i64 b.hi.z]).alloc _).alloc _)
 have HP0 := Lib.hid (show Arr W0 (w.heap.size + 1) 25 [.int .i64 p.x, .int .i64 p.y, .int .i64 p.z] by rw [hW]; exact (Arr.new1 w _ _ [.int .i64 p.x, .int .i64 p.y, .int .i64 p.z]).alloc _)
 have HR0 := Lib.hid (show Arr W0 (w.heap.size + 1 + 1) 27 [.int .i64 0, .int .i64 0, .int .i64 0, .int .i64 0, .int .i64 0, .int .i64 0] by
  rw [hW]
  have h := Arr.new ((w.alloc (.cells #[.int .i64 b.lo.x, .int .i64 b.lo.y, .int .i64 b.lo.z, .int .i64 b.hi.x, .int .i64 b.hi.y, .int .i64 b.hi.z] 27)).alloc (.cells #[.int .i64 p.x, .int .i64 p.y, .int .i64 p.z] 25)) 27 [.int .i64 0, .int .i64 0, .int .i64 0, .int .i64 0, .int .i64 0, .int .i64 0]
  simp only [World.size_alloc_] at h
  exact h)
 have HA1 := Lib.hid (Add_any b.lo p); have HA2 := Lib.hid (Add_any b.hi p)
 have cB := HB0.out.cell; have cP := HP0.out.cell; have lB := HB0.out.lt; have lP := HP0.out.lt
 go_enter Tryz.func122, Tryz.ntmps122
 go_upto_region 1 with fail
 rw [← hW]
 clear hW
 refine wp_region_near_tail 9 (by assumption) (by kernel_rfl) ?_
 simp only [List.take_succ_cons, List.take_zero, List.drop_succ_cons, List.drop_zero]
 repeat (go_big_quiet_step ((go_at_call 56; first | (with_reducible exact near_call (HA1.out _)) | (with_reducible exact near_call (HA2.out _)))))
 refine wpQuiet_nil ?_
 intro w1 hw1
 have hy := Ext.of_near hw1
 clear hw1
 have HR1 := Lib.hid (HR0.out.ext hy); have HX1 := Lib.hid (HX0.out.trans hy)
 clear hy cB cP lB lP
 go_wp2_with (refine wpList_store_blk 27 (.tmp 4) (.tmp 13) rfl rfl HR1.out [.int .i64 (shiftB b p).lo.x, .int .i64 (shiftB b p).lo.y, .int .i64 (shiftB b p).lo.z, .int .i64 (shiftB b p).hi.x, .int .i64 (shiftB b p).hi.y, .int .i64 (shiftB b p).hi.z] rfl rfl (by kernel_rfl) rfl rfl ?_)
 refine bodyPost_ret (v := .agg #[.int .i64 (shiftB b p).lo.x, .int .i64 (shiftB b p).lo.y, .int .i64 (shiftB b p).lo.z, .int .i64 (shiftB b p).hi.x, .int .i64 (shiftB b p).hi.y, .int .i64 (shiftB b p).hi.z]) ?_ rfl ⟨rfl, HX1.out.setRow (by omega) _⟩
 exact results_cell_row Tryz.results122 _ _ _ _ _ _ _ rfl (HR1.out.setRow [.int .i64 (shiftB b p).lo.x, .int .i64 (shiftB b p).lo.y, .int .i64 (shiftB b p).lo.z, .int .i64 (shiftB b p).hi.x, .int .i64 (shiftB b p).hi.y, .int .i64 (shiftB b p).hi.z]) Tryz.underlying27 rfl (by kernel_rfl)
def aroundB (p : Pt) (n : Int) : Bx := shiftB ⟨⟨-n, -n, -n⟩, ⟨n + 1, n + 1, n + 1⟩⟩ p
def Z6 : List Value := [.int .i64 0, .int .i64 0, .int .i64 0, .int .i64 0, .int .i64 0, .int .i64 0]
set_option maxHeartbeats 8000000 in
set_option maxRecDepth 100000 in
theorem around_any (p : Pt) (n : Int) (h0 : 0 ≤ n) (h1 : n ≤ 1000000) (w : World) : Calls Tryz.prog 90 #[.agg #[.int .i64 p.x, .int .i64 p.y, .int .i64 p.z], .int .i64 n] w fun e w' => e = .returned (.agg #[.int .i64 (aroundB p n).lo.x, .int .i64 (aroundB p n).lo.y, .int .i64 (aroundB p n).lo.z, .int .i64 (aroundB p n).hi.x, .int .i64 (aroundB p n).hi.y, .int .i64 (aroundB p n).hi.z]) ∧ Ext w w' := by
 obtain ⟨W0, hW⟩ : ∃ W, W = (w.alloc (.cells #[.int .i64 p.x, .int .i64 p.y, .int .i64 p.z] 25)).alloc (.cells #[.int .i64 0, .int .i64 0, .int .i64 0, .int .i64 0, .int .i64 0, .int .i64 0] 27) := ⟨_, rfl⟩
 have HX0 := Lib.hid (show Ext w W0 by rw [hW]; exact ((Ext.refl w).alloc _).alloc _)
 have HP0 := Lib.hid (show Arr W0 w.heap.size 25 [.int .i64 p.x, .int .i64 p.y, .int .i64 p.z] by rw [hW]; exact (Arr.new w _ [.int .i64 p.x, .int .i64 p.y, .int .i64 p.z]).alloc _)
 have HR0 := Lib.hid (show Arr W0 (w.heap.size + 1) 27 Z6 by rw [hW]; exact Arr.new1 w _ _ Z6)
 have HS := Lib.hid (show Calls Tryz.prog 122 #[.agg #[.int .i64 (-n), .int .i64 (-n), .int .i64 (-n), .int .i64 (n + 1), .int .i64 (n + 1), .int .i64 (n + 1)], .agg #[.int .i64 p.x, .int .i64 p.y, .int .i64 p.z]] W0 fun e w' => e = .returned (.agg #[.int .i64 (aroundB p n).lo.x, .int .i64 (aroundB p n).lo.y, .int .i64 (aroundB p n).lo.z, .int .i64 (aroundB p n).hi.x, .int .i64 (aroundB p n).hi.y, .int .i64 (aroundB p n).hi.z]) ∧ Ext W0 w' from Shift_any ⟨⟨-n, -n, -n⟩, ⟨n + 1, n + 1, n + 1⟩⟩ p W0)
 go_enter Tryz.func90, Tryz.ntmps90
 go_upto_region 1 with fail
 rw [← hW]
 clear hW
 go_wp2_with (first
  | (refine ldB 25 2 HP0.out Tryz.underlying25 ?_) | (refine ldB 25 2 (HP0.out.alloc _) Tryz.underlying25 ?_) | (refine ldB 25 2 ((HP0.out.alloc _).alloc _) Tryz.underlying25 ?_)
  | (go_at_call 122; refine HS.out.mono ?_; rintro e W1 ⟨rfl, hx1⟩; have HR1 := Lib.hid (HR0.out.ext hx1); have HX1 := Lib.hid (HX0.out.trans hx1); clear hx1)
  | (refine wpList_store_blk 27 (.tmp 4) (.tmp 21) rfl rfl HR1.out [.int .i64 (aroundB p n).lo.x, .int .i64 (aroundB p n).lo.y, .int .i64 (aroundB p n).lo.z, .int .i64 (aroundB p n).hi.x, .int .i64 (aroundB p n).hi.y, .int .i64 (aroundB p n).hi.z] rfl rfl (by kernel_rfl) rfl rfl ?_))
 refine bodyPost_ret (v := .agg #[.int .i64 (aroundB p n).lo.x, .int .i64 (aroundB p n).lo.y, .int .i64 (aroundB p n).lo.z, .int .i64 (aroundB p n).hi.x, .int .i64 (aroundB p n).hi.y, .int .i64 (aroundB p n).hi.z]) ?_ rfl ⟨rfl, HX1.out.setRow (by omega) _⟩
 exact results_cell_row Tryz.results90 _ _ _ _ _ _ _ rfl (HR1.out.setRow [.int .i64 (aroundB p n).lo.x, .int .i64 (aroundB p n).lo.y, .int .i64 (aroundB p n).lo.z, .int .i64 (aroundB p n).hi.x, .int .i64 (aroundB p n).hi.y, .int .i64 (aroundB p n).hi.z]) Tryz.underlying27 rfl (by kernel_rfl)
def ballBx (p : Pt) (n : Int) : Bx := if 1 ≤ n ∧ n ≤ 4096 then aroundB p (n / 2) else zeroBx
set_option maxHeartbeats 8000000 in
set_option maxRecDepth 100000 in
theorem BallBox_any (p : Pt) (n : Int) (w : World) : Calls Tryz.prog 55 #[.agg #[.int .i64 p.x, .int .i64 p.y, .int .i64 p.z], .int .i64 n] w fun e w' => e = .returned (.agg #[.int .i64 (ballBx p n).lo.x, .int .i64 (ballBx p n).lo.y, .int .i64 (ballBx p n).lo.z, .int .i64 (ballBx p n).hi.x, .int .i64 (ballBx p n).hi.y, .int .i64 (ballBx p n).hi.z]) ∧ Ext w w' := by
 obtain ⟨W0, hW⟩ : ∃ W, W = (w.alloc (.cells #[.int .i64 p.x, .int .i64 p.y, .int .i64 p.z] 25)).alloc (.cells #[.int .i64 0, .int .i64 0, .int .i64 0, .int .i64 0, .int .i64 0, .int .i64 0] 27) := ⟨_, rfl⟩
 have HX0 := Lib.hid (show Ext w W0 by rw [hW]; exact ((Ext.refl w).alloc _).alloc _)
 have HP0 := Lib.hid (show Arr W0 w.heap.size 25 [.int .i64 p.x, .int .i64 p.y, .int .i64 p.z] by rw [hW]; exact (Arr.new w _ [.int .i64 p.x, .int .i64 p.y, .int .i64 p.z]).alloc _)
 have HR0 := Lib.hid (show Arr W0 (w.heap.size + 1) 27 Z6 by rw [hW]; exact Arr.new1 w _ _ Z6)
 have HI := Lib.hid (isSizeB_any n W0)
 by_cases hn : 1 ≤ n ∧ n ≤ 4096
 · have HD := Lib.hid (show ballBx p n = aroundB p (n / 2) by unfold ballBx; rw [if_pos hn])
   rw [decide_eq_true hn] at HI
   rw [HD.out]
   have hq : n.tdiv 2 = n / 2 := Int.tdiv_eq_ediv_of_nonneg (by omega)
   obtain ⟨h, hh⟩ : ∃ h, h = n / 2 := ⟨_, rfl⟩
   have hh0 : 0 ≤ h ∧ h ≤ 2048 := by omega
   have HAR := Lib.hid (around_any p h hh0.1 (by omega))
   rw [← hh] at hq ⊢
   clear hh
   go_enter Tryz.func55, Tryz.ntmps55
   go_upto_region 1 with fail
   rw [← hW]
   clear hW
   go_wp2_with (first
    | (go_at_call 89; refine HI.out.mono ?_; rintro e W1 ⟨rfl, hx1⟩; have HR1 := Lib.hid (HR0.out.ext hx1); have HP1 := Lib.hid (HP0.out.ext hx1); have HX1 := Lib.hid (HX0.out.trans hx1); clear hx1)
    | (refine ldB 25 2 HP1.out Tryz.underlying25 ?_) | (refine ldB 25 2 (HP1.out.alloc _) Tryz.underlying25 ?_) | (refine ldB 25 2 ((HP1.out.alloc _).alloc _) Tryz.underlying25 ?_)
    | (go_at_call 90; refine (HAR.out _).mono ?_; rintro e W2 ⟨rfl, hx2⟩; have HR2 := Lib.hid (HR1.out.ext hx2); have HX2 := Lib.hid (HX1.out.trans hx2); clear hx2)
    | (refine wpList_store_blk 27 (.tmp 4) (.tmp 12) rfl rfl HR2.out [.int .i64 (aroundB p h).lo.x, .int .i64 (aroundB p h).lo.y, .int .i64 (aroundB p h).lo.z, .int .i64 (aroundB p h).hi.x, .int .i64 (aroundB p h).hi.y, .int .i64 (aroundB p h).hi.z] rfl rfl (by kernel_rfl) rfl rfl ?_))
   refine bodyPost_ret (v := .agg #[.int .i64 (aroundB p h).lo.x, .int .i64 (aroundB p h).lo.y, .int .i64 (aroundB p h).lo.z, .int .i64 (aroundB p h).hi.x, .int .i64 (aroundB p h).hi.y, .int .i64 (aroundB p h).hi.z]) ?_ rfl ⟨rfl, HX2.out.setRow (by omega) _⟩
   exact results_cell_row Tryz.results55 _ _ _ _ _ _ _ rfl (HR2.out.setRow [.int .i64 (aroundB p h).lo.x, .int .i64 (aroundB p h).lo.y, .int .i64 (aroundB p h).lo.z, .int .i64 (aroundB p h).hi.x, .int .i64 (aroundB p h).hi.y, .int .i64 (aroundB p h).hi.z]) Tryz.underlying27 rfl (by kernel_rfl)
 · have HD := Lib.hid (show ballBx p n = zeroBx by unfold ballBx; rw [if_neg hn])
   rw [decide_eq_false hn] at HI
   rw [HD.out]
   go_enter Tryz.func55, Tryz.ntmps55
   go_upto_region 1 with fail
   rw [← hW]
   clear hW
   go_wp2_with (first
    | (go_at_call 89; refine HI.out.mono ?_; rintro e W1 ⟨rfl, hx1⟩; have HR1 := Lib.hid (HR0.out.ext hx1); have HX1 := Lib.hid (HX0.out.trans hx1); clear hx1)
    | (refine wpList_store_blk 27 (.tmp 4) (.tmp 8) rfl rfl HR1.out [.int .i64 zeroBx.lo.x, .int .i64 zeroBx.lo.y, .int .i64 zeroBx.lo.z, .int .i64 zeroBx.hi.x, .int .i64 zeroBx.hi.y, .int .i64 zeroBx.hi.z] rfl rfl (by kernel_rfl) rfl rfl ?_))
   refine bodyPost_ret (v := .agg #[.int .i64 zeroBx.lo.x, .int .i64 zeroBx.lo.y, .int .i64 zeroBx.lo.z, .int .i64 zeroBx.hi.x, .int .i64 zeroBx.hi.y, .int .i64 zeroBx.hi.z]) ?_ rfl ⟨rfl, HX1.out.setRow (by omega) _⟩
   exact results_cell_row Tryz.results55 _ _ _ _ _ _ _ rfl (HR1.out.setRow [.int .i64 zeroBx.lo.x, .int .i64 zeroBx.lo.y, .int .i64 zeroBx.lo.z, .int .i64 zeroBx.hi.x, .int .i64 zeroBx.hi.y, .int .i64 zeroBx.hi.z]) Tryz.underlying27 rfl (by kernel_rfl)
end Go.Proofs.YtlinhgannajfpaaGreatDoor

/- edit.Bounds of a ball; ball, undo of the law. -/
namespace Go.Proofs.YtlinhgannajfpaaGreatDoor
open Go Go.RowKit

def cubeD (d : Int) : Bx := cubeB (2 ^ d.toNat)
set_option maxHeartbeats 8000000 in
set_option maxRecDepth 100000 in
theorem Bounds_ball (x : Ed) (hk : x.kind = 2) (d : Int) (hd : 2 ≤ d ∧ d ≤ 14) (w : World) :
    Calls Tryz.prog 15 #[.agg #[.int .i64 x.st.tick, .int .i64 x.st.clock, .int .i64 x.st.site, .int .i64 x.st.seq, .int .i64 x.kind, .int .i64 x.box.lo.x, .int .i64 x.box.lo.y, .int .i64 x.box.lo.z, .int .i64 x.box.hi.x, .int .i64 x.box.hi.y, .int .i64 x.box.hi.z, .int .i64 x.at_.x, .int .i64 x.at_.y, .int .i64 x.at_.z, .int .i64 x.turn, .int .i64 x.cell, .int .i64 x.size], .int .i64 d] w fun e w' => e = .returned (.agg #[.int .i64 (interB (ballBx x.at_ x.size) (cubeD d)).lo.x, .int .i64 (interB (ballBx x.at_ x.size) (cubeD d)).lo.y, .int .i64 (interB (ballBx x.at_ x.size) (cubeD d)).lo.z, .int .i64 (interB (ballBx x.at_ x.size) (cubeD d)).hi.x, .int .i64 (interB (ballBx x.at_ x.size) (cubeD d)).hi.y, .int .i64 (interB (ballBx x.at_ x.size) (cubeD d)).hi.z]) ∧ Ext w w' := by
 have hm := mixed
 have hG := near_old
 have hsh := shl_run d hd
 obtain ⟨st, kind, box, at_, turn, cell, size⟩ := x
 simp only at hk
 subst hk
 unfold cubeD
 obtain ⟨S, hS⟩ : ∃ S : Int, (2 : Int) ^ d.toNat = S := ⟨_, rfl⟩
 have hw6 : wrap64 ((2 : Int) ^ d.toNat) = (2 : Int) ^ d.toNat := by
  rcases (show d = 2 ∨ d = 3 ∨ d = 4 ∨ d = 5 ∨ d = 6 ∨ d = 7 ∨ d = 8 ∨ d = 9 ∨ d = 10 ∨ d = 11 ∨ d = 12 ∨ d = 13 ∨ d = 14 by omega) with h | h | h | h | h | h | h | h | h | h | h | h | h <;> subst h <;> kernel_rfl
 rw [hS] at hsh ⊢
 rw (occs := .pos [2]) [hS] at hw6
 clear hS
 obtain ⟨bb, hbb⟩ : ∃ bb, bb = ballBx at_ size := ⟨_, rfl⟩
 obtain ⟨rb, hrb⟩ : ∃ rb, rb = interB bb (cubeB S) := ⟨_, rfl⟩
 have HBB' := fun w => BallBox_any at_ size w
 rw [← hbb] at HBB' ⊢
 rw [← hrb]
 have HI := Lib.hid (Intersect_any bb (cubeB S))
 rw [← hrb] at HI
 clear hbb hrb
 obtain ⟨W0, hW⟩ : ∃ W, W = ((w.alloc (.cells #[.int .i64 st.tick, .int .i64 st.clock, .int .i64 st.site, .int .i64 st.seq, .int .i64 2, .int .i64 box.lo.x, .int .i64 box.lo.y, .int .i64 box.lo.z, .int .i64 box.hi.x, .int .i64 box.hi.y, .int .i64 box.hi.z, .int .i64 at_.x, .int .i64 at_.y, .int .i64 at_.z, .int .i64 turn, .int .i64 cell, .int .i64 size] 29)).alloc (.cells #[.int .i64 0, .int .i64 0, .int .i64 0, .int .i64 0, .int .i64 0, .int .i64 0] 27)).alloc (.cells #[.int .i64 0, .int .i64 0, .int .i64 0, .int .i64 0, .int .i64 0, .int .i64 0] 27) := ⟨_, rfl⟩
 have HX0 := Lib.hid (show Ext w W0 by rw [hW]; exact (((Ext.refl w).alloc _).alloc _).alloc _)
 have HB0 := Lib.hid (show Arr W0 w.heap.size 29 [.int .i64 st.tick, .int .i64 st.clock, .int .i64 st.site, .int .i64 st.seq, .int .i64 2, .int .i64 box.lo.x, .int .i64 box.lo.y, .int .i64 box.lo.z, .int .i64 box.hi.x, .int .i64 box.hi.y, .int .i64 box.hi.z, .int .i64 at_.x, .int .i64 at_.y, .int .i64 at_.z, .int .i64 turn, .int .i64 cell, .int .i64 size] by rw [hW]; exact ((Arr.new w _ _).alloc _).alloc _)
 have HR0 := Lib.hid (show Arr W0 (w.heap.size + 1) 27 Z6 by rw [hW]; exact (Arr.new1 w _ _ Z6).alloc _)
 have HV0 := Lib.hid (show Arr W0 (w.heap.size + 1 + 1) 27 Z6 by
  rw [hW]
  have h := Arr.new ((w.alloc (.cells #[.int .i64 st.tick, .int .i64 st.clock, .int .i64 st.site, .int .i64 st.seq, .int .i64 2, .int .i64 box.lo.x, .int .i64 box.lo.y, .int .i64 box.lo.z, .int .i64 box.hi.x, .int .i64 box.hi.y, .int .i64 box.hi.z, .int .i64 at_.x, .int .i64 at_.y, .int .i64 at_.z, .int .i64 turn, .int .i64 cell, .int .i64 size] 29)).alloc (.cells #[.int .i64 0, .int .i64 0, .int .i64 0, .int .i64 0, .int .i64 0, .int .i64 0] 27)) 27 Z6
  simp only [World.size_alloc_] at h
  exact h)
 have HBB := Lib.hid (HBB' W0)
 clear HBB'
 have cB := HB0.out.cell; have lB := HB0.out.lt
 go_enter Tryz.func15, Tryz.ntmps15
 go_upto_region 2 with fail
 rw [← hW]
 clear hW
 have HCU := Lib.hid (fun (w' : World) => (show Calls Tryz.prog 45 #[.int .i64 S] w' fun e w'' => e = .returned (.agg #[.int .i64 (cubeB S).lo.x, .int .i64 (cubeB S).lo.y, .int .i64 (cubeB S).lo.z, .int .i64 (cubeB S).hi.x, .int .i64 (cubeB S).hi.y, .int .i64 (cubeB S).hi.z]) ∧ Ext w' w'' from Cube_any S w'))
 go_upto_region 14 with (first
  | (refine wpList_load_part 25 (.tmp 16) rfl rfl HB0.out 11 [.int .i64 at_.x, .int .i64 at_.y, .int .i64 at_.z] rfl rfl _ Tryz.underlying25 rfl (by kernel_rfl) ?_) | (refine wpList_load_part 25 (.tmp 16) rfl rfl (HB0.out.alloc _) 11 [.int .i64 at_.x, .int .i64 at_.y, .int .i64 at_.z] rfl rfl _ Tryz.underlying25 rfl (by kernel_rfl) ?_)
  | (go_at_call 55; refine HBB.out.mono ?_; rintro e W1 ⟨rfl, hx1⟩; have HR1 := Lib.hid (HR0.out.ext hx1); have HV1 := Lib.hid (HV0.out.ext hx1); have HX1 := Lib.hid (HX0.out.trans hx1); clear hx1)
  | (refine wpList_store_blk2 27 (.tmp 5) (.tmp 20) rfl rfl HV1.out [.int .i64 bb.lo.x, .int .i64 bb.lo.y, .int .i64 bb.lo.z, .int .i64 bb.hi.x, .int .i64 bb.hi.y, .int .i64 bb.hi.z] rfl rfl (by kernel_rfl) rfl rfl rfl ?_; intro W2 hW2; have HR2 := Lib.hid (show Arr W2 (w.heap.size + 1) 27 Z6 by rw [hW2]; exact HR1.out.setRow_other (by omega) _); have HV2 := Lib.hid (show Arr W2 (w.heap.size + 1 + 1) 27 [.int .i64 bb.lo.x, .int .i64 bb.lo.y, .int .i64 bb.lo.z, .int .i64 bb.hi.x, .int .i64 bb.hi.y, .int .i64 bb.hi.z] by rw [hW2]; exact HV1.out.setRow _); have HX2 := Lib.hid (show Ext w W2 by rw [hW2]; exact HX1.out.setRow (by omega) _); clear hW2))
 clear cB lB
 have cV := HV2.out.cell; have lV := HV2.out.lt
 refine wp_region_near_tail 5 (by assumption) (by kernel_rfl) ?_
 simp only [List.take_succ_cons, List.take_zero, List.drop_succ_cons, List.drop_zero]
 repeat (go_big_quiet_step ((first | (go_at_call 45; exact near_call (HCU.out _)) | (go_at_call 59; exact near_call (HI.out _)))))
 refine wpQuiet_nil ?_
 intro w1 hw1
 have hy := Ext.of_near hw1
 clear hw1
 have HR3 := Lib.hid (HR2.out.ext hy); have HX3 := Lib.hid (HX2.out.trans hy)
 clear hy cV lV
 go_wp2_with (refine wpList_store_blk 27 (.tmp 4) (.tmp 63) rfl rfl HR3.out [.int .i64 rb.lo.x, .int .i64 rb.lo.y, .int .i64 rb.lo.z, .int .i64 rb.hi.x, .int .i64 rb.hi.y, .int .i64 rb.hi.z] rfl rfl (by kernel_rfl) rfl rfl ?_)
 refine bodyPost_ret (v := .agg #[.int .i64 rb.lo.x, .int .i64 rb.lo.y, .int .i64 rb.lo.z, .int .i64 rb.hi.x, .int .i64 rb.hi.y, .int .i64 rb.hi.z]) ?_ rfl ⟨rfl, HX3.out.setRow (by omega) _⟩
 exact results_cell_row Tryz.results15 _ _ _ _ _ _ _ rfl (HR3.out.setRow [.int .i64 rb.lo.x, .int .i64 rb.lo.y, .int .i64 rb.lo.z, .int .i64 rb.hi.x, .int .i64 rb.hi.y, .int .i64 rb.hi.z]) Tryz.underlying27 rfl (by kernel_rfl)
def ballEd : Ed := ⟨⟨3, 5, 1, 2⟩, 2, ⟨⟨0, 0, 0⟩, ⟨0, 0, 0⟩⟩, ⟨4, 4, 4⟩, 0, 1, 3⟩
def undoEd (size cell : Int) : Ed := ⟨⟨3, 5, 1, 2⟩, 6, ⟨⟨0, 0, 0⟩, ⟨0, 0, 0⟩⟩, ⟨0, 0, 0⟩, 0, cell, size⟩
set_option maxHeartbeats 4000000 in
set_option maxRecDepth 100000 in
theorem ball_any (w : World) : Calls Tryz.prog 42 #[] w fun e w' => e = .returned (.agg #[.int .i64 ballEd.st.tick, .int .i64 ballEd.st.clock, .int .i64 ballEd.st.site, .int .i64 ballEd.st.seq, .int .i64 ballEd.kind, .int .i64 ballEd.box.lo.x, .int .i64 ballEd.box.lo.y, .int .i64 ballEd.box.lo.z, .int .i64 ballEd.box.hi.x, .int .i64 ballEd.box.hi.y, .int .i64 ballEd.box.hi.z, .int .i64 ballEd.at_.x, .int .i64 ballEd.at_.y, .int .i64 ballEd.at_.z, .int .i64 ballEd.turn, .int .i64 ballEd.cell, .int .i64 ballEd.size]) ∧ Ext w w' := by
 have HB0 := Lib.hid (Arr.new w 29 [.int .i64 0, .int .i64 0, .int .i64 0, .int .i64 0, .int .i64 0, .int .i64 0, .int .i64 0, .int .i64 0, .int .i64 0, .int .i64 0, .int .i64 0, .int .i64 0, .int .i64 0, .int .i64 0, .int .i64 0, .int .i64 0, .int .i64 0])
 go_enter Tryz.func42, Tryz.ntmps42
 go_wp2_with (refine wpList_store_blk 29 (.tmp 0) (.tmp 3) rfl rfl HB0.out [.int .i64 ballEd.st.tick, .int .i64 ballEd.st.clock, .int .i64 ballEd.st.site, .int .i64 ballEd.st.seq, .int .i64 ballEd.kind, .int .i64 ballEd.box.lo.x, .int .i64 ballEd.box.lo.y, .int .i64 ballEd.box.lo.z, .int .i64 ballEd.box.hi.x, .int .i64 ballEd.box.hi.y, .int .i64 ballEd.box.hi.z, .int .i64 ballEd.at_.x, .int .i64 ballEd.at_.y, .int .i64 ballEd.at_.z, .int .i64 ballEd.turn, .int .i64 ballEd.cell, .int .i64 ballEd.size] rfl rfl (by kernel_rfl) rfl rfl ?_)
 refine bodyPost_ret (v := .agg #[.int .i64 ballEd.st.tick, .int .i64 ballEd.st.clock, .int .i64 ballEd.st.site, .int .i64 ballEd.st.seq, .int .i64 ballEd.kind, .int .i64 ballEd.box.lo.x, .int .i64 ballEd.box.lo.y, .int .i64 ballEd.box.lo.z, .int .i64 ballEd.box.hi.x, .int .i64 ballEd.box.hi.y, .int .i64 ballEd.box.hi.z, .int .i64 ballEd.at_.x, .int .i64 ballEd.at_.y, .int .i64 ballEd.at_.z, .int .i64 ballEd.turn, .int .i64 ballEd.cell, .int .i64 ballEd.size]) ?_ rfl ⟨rfl, ((Ext.refl w).alloc _).setRow (Nat.le_refl _) _⟩
 exact results_cell_row Tryz.results42 _ _ _ _ _ _ _ rfl (HB0.out.setRow [.int .i64 ballEd.st.tick, .int .i64 ballEd.st.clock, .int .i64 ballEd.st.site, .int .i64 ballEd.st.seq, .int .i64 ballEd.kind, .int .i64 ballEd.box.lo.x, .int .i64 ballEd.box.lo.y, .int .i64 ballEd.box.lo.z, .int .i64 ballEd.box.hi.x, .int .i64 ballEd.box.hi.y, .int .i64 ballEd.box.hi.z, .int .i64 ballEd.at_.x, .int .i64 ballEd.at_.y, .int .i64 ballEd.at_.z, .int .i64 ballEd.turn, .int .i64 ballEd.cell, .int .i64 ballEd.size]) Tryz.underlying29 rfl (by kernel_rfl)
set_option maxHeartbeats 4000000 in
set_option maxRecDepth 100000 in
theorem undo_any (size cell : Int) (w : World) : Calls Tryz.prog 43 #[.int .i64 size, .int .i64 cell] w fun e w' => e = .returned (.agg #[.int .i64 (undoEd size cell).st.tick, .int .i64 (undoEd size cell).st.clock, .int .i64 (undoEd size cell).st.site, .int .i64 (undoEd size cell).st.seq, .int .i64 (undoEd size cell).kind, .int .i64 (undoEd size cell).box.lo.x, .int .i64 (undoEd size cell).box.lo.y, .int .i64 (undoEd size cell).box.lo.z, .int .i64 (undoEd size cell).box.hi.x, .int .i64 (undoEd size cell).box.hi.y, .int .i64 (undoEd size cell).box.hi.z, .int .i64 (undoEd size cell).at_.x, .int .i64 (undoEd size cell).at_.y, .int .i64 (undoEd size cell).at_.z, .int .i64 (undoEd size cell).turn, .int .i64 (undoEd size cell).cell, .int .i64 (undoEd size cell).size]) ∧ Ext w w' := by
 obtain ⟨W0, hW⟩ : ∃ W, W = w.alloc (.cells #[.int .i64 0, .int .i64 0, .int .i64 0, .int .i64 0, .int .i64 0, .int .i64 0, .int .i64 0, .int .i64 0, .int .i64 0, .int .i64 0, .int .i64 0, .int .i64 0, .int .i64 0, .int .i64 0, .int .i64 0, .int .i64 0, .int .i64 0] 29) := ⟨_, rfl⟩
 have HX0 := Lib.hid (show Ext w W0 by rw [hW]; exact (Ext.refl w).alloc _)
 have HB0 := Lib.hid (show Arr W0 w.heap.size 29 [.int .i64 0, .int .i64 0, .int .i64 0, .int .i64 0, .int .i64 0, .int .i64 0, .int .i64 0, .int .i64 0, .int .i64 0, .int .i64 0, .int .i64 0, .int .i64 0, .int .i64 0, .int .i64 0, .int .i64 0, .int .i64 0, .int .i64 0] by rw [hW]; exact Arr.new w _ _)
 have HC := Lib.hid (ball_any W0)
 have hF : ∀ W : World, Sem.run Tryz.prog (Instr.field 29 (.agg #[.int .i64 ballEd.st.tick, .int .i64 ballEd.st.clock, .int .i64 ballEd.st.site, .int .i64 ballEd.st.seq, .int .i64 ballEd.kind, .int .i64 ballEd.box.lo.x, .int .i64 ballEd.box.lo.y, .int .i64 ballEd.box.lo.z, .int .i64 ballEd.box.hi.x, .int .i64 ballEd.box.hi.y, .int .i64 ballEd.box.hi.z, .int .i64 ballEd.at_.x, .int .i64 ballEd.at_.y, .int .i64 ballEd.at_.z, .int .i64 ballEd.turn, .int .i64 ballEd.cell, .int .i64 ballEd.size]) 0) W = .ok (.agg #[.int .i64 ballEd.st.tick, .int .i64 ballEd.st.clock, .int .i64 ballEd.st.site, .int .i64 ballEd.st.seq]) W := fun W => by kernel_rfl
 go_enter Tryz.func43, Tryz.ntmps43
 go_upto_region 1 with fail
 rw [← hW]
 clear hW
 go_wp2_with (first
  | (go_at_call 42; refine HC.out.mono ?_; rintro e W1 ⟨rfl, hx1⟩; have HB1 := Lib.hid (HB0.out.ext hx1); have HX1 := Lib.hid (HX0.out.trans hx1); clear hx1)
  | (refine wpList_store_blk 29 (.tmp 4) (.tmp 9) rfl rfl HB1.out [.int .i64 (undoEd size cell).st.tick, .int .i64 (undoEd size cell).st.clock, .int .i64 (undoEd size cell).st.site, .int .i64 (undoEd size cell).st.seq, .int .i64 (undoEd size cell).kind, .int .i64 (undoEd size cell).box.lo.x, .int .i64 (undoEd size cell).box.lo.y, .int .i64 (undoEd size cell).box.lo.z, .int .i64 (undoEd size cell).box.hi.x, .int .i64 (undoEd size cell).box.hi.y, .int .i64 (undoEd size cell).box.hi.z, .int .i64 (undoEd size cell).at_.x, .int .i64 (undoEd size cell).at_.y, .int .i64 (undoEd size cell).at_.z, .int .i64 (undoEd size cell).turn, .int .i64 (undoEd size cell).cell, .int .i64 (undoEd size cell).size] rfl rfl (by kernel_rfl) rfl rfl ?_))
 refine bodyPost_ret (v := .agg #[.int .i64 (undoEd size cell).st.tick, .int .i64 (undoEd size cell).st.clock, .int .i64 (undoEd size cell).st.site, .int .i64 (undoEd size cell).st.seq, .int .i64 (undoEd size cell).kind, .int .i64 (undoEd size cell).box.lo.x, .int .i64 (undoEd size cell).box.lo.y, .int .i64 (undoEd size cell).box.lo.z, .int .i64 (undoEd size cell).box.hi.x, .int .i64 (undoEd size cell).box.hi.y, .int .i64 (undoEd size cell).box.hi.z, .int .i64 (undoEd size cell).at_.x, .int .i64 (undoEd size cell).at_.y, .int .i64 (undoEd size cell).at_.z, .int .i64 (undoEd size cell).turn, .int .i64 (undoEd size cell).cell, .int .i64 (undoEd size cell).size]) ?_ rfl ⟨rfl, HX1.out.setRow (Nat.le_refl _) _⟩
 exact results_cell_row Tryz.results43 _ _ _ _ _ _ _ rfl (HB1.out.setRow [.int .i64 (undoEd size cell).st.tick, .int .i64 (undoEd size cell).st.clock, .int .i64 (undoEd size cell).st.site, .int .i64 (undoEd size cell).st.seq, .int .i64 (undoEd size cell).kind, .int .i64 (undoEd size cell).box.lo.x, .int .i64 (undoEd size cell).box.lo.y, .int .i64 (undoEd size cell).box.lo.z, .int .i64 (undoEd size cell).box.hi.x, .int .i64 (undoEd size cell).box.hi.y, .int .i64 (undoEd size cell).box.hi.z, .int .i64 (undoEd size cell).at_.x, .int .i64 (undoEd size cell).at_.y, .int .i64 (undoEd size cell).at_.z, .int .i64 (undoEd size cell).turn, .int .i64 (undoEd size cell).cell, .int .i64 (undoEd size cell).size]) Tryz.underlying29 rfl (by kernel_rfl)
end Go.Proofs.YtlinhgannajfpaaGreatDoor

/- The table of the axes as a laid variable. -/
namespace Go.Proofs.YtlinhgannajfpaaGreatDoor
open Go Go.RowKit

def axisL : Nat → List UInt8
 | 0 => [120, 121, 122]
 | 1 => [120, 122, 121]
 | 2 => [121, 120, 122]
 | 3 => [121, 122, 120]
 | 4 => [122, 120, 121]
 | 5 => [122, 121, 120]
 | _ => []
structure AxesIn (w : World) : Prop where
 at_ : ∀ i, i < 6 → w.cell? ⟨1, i, none⟩ = some (strV (axisL i))
 lt : 1 < w.heap.size
theorem AxesIn.ext {w w' : World} (h : AxesIn w) (hx : Ext w w') : AxesIn w' := ⟨fun i hi => (hx.cell (p := ⟨1, i, none⟩) h.lt).trans (h.at_ i hi), Nat.lt_of_lt_of_le h.lt hx.size⟩
end Go.Proofs.YtlinhgannajfpaaGreatDoor

/- slices.Compact at Ed, on a row of the call's own that is in order. -/
namespace Go.Proofs.YtlinhgannajfpaaGreatDoor
open Go Go.RowKit

def RetCEd (g c base : Nat) (l : List Ed) (w : World) (en : Ending) (w' : World) : Prop :=
 ∃ m : List Ed, Srt befE m ∧ (∀ q, q ∈ m ↔ q ∈ l) ∧ en = .returned (.slice (some ⟨g, 0, none⟩) m.length c) ∧ w'.ownsRow base 29 17 (.slice (some ⟨g, 0, none⟩) m.length c) m.length (rowsE m).flatten ∧ w.grownBy w' (some g)
theorem CompactEd_none (w : World) :
    Calls Tryz.prog 70 #[.slice none 0 0] w fun e w' => e = .returned (.slice none 0 0) ∧ w' = w := by
 go_enter Tryz.func70, Tryz.ntmps70
 go_wp2
 go_ret
 exact ⟨rfl, rfl⟩
set_option maxRecDepth 100000 in
set_option maxHeartbeats 8000000 in
theorem CompactEd_own (g c base : Nat) (l : List Ed) (w : World) (ho : w.ownsRow base 29 17 (.slice (some ⟨g, 0, none⟩) l.length c) l.length (rowsE l).flatten) (hl : LeR befE l) (hb : l.length ≤ 1034834473200) :
    Calls Tryz.prog 70 #[.slice (some ⟨g, 0, none⟩) l.length c] w (RetCEd g c base l w) := by
 have hm := mixed
 obtain ⟨cur0, hbg, hcur0, hnc, hcm, _⟩ := own_cur ho
 have hgl := (Array.getElem?_eq_some_iff.1 hcur0).1
 unfold maxLen at hcm
 have HO := Lib.hid ho; have HL := Lib.hid hl
 clear ho hl hcur0
 by_cases h2 : l.length < 2
 · have HS := Lib.hid (Srt.short (r := befE) h2)
   go_enter Tryz.func70, Tryz.ntmps70
   go_wp2
   go_ret
   exact ⟨l, HS.out, fun q => Iff.rfl, rfl, HO.out, grown_refl _ _⟩
 · go_enter Tryz.func70, Tryz.ntmps70
   go_wp2
   go_loopw [3] (fun i wr => ∃ k : Nat, k + 1 ≤ l.length ∧ i = .int .i64 (k + 1 : Nat) ∧ Srt befE (l.take (k + 1)) ∧ Ext w wr) (fun i _ => l.length - (intOf i).toNat)
   case atStart => exact ⟨0, by omega, rfl, Srt.short (by rw [List.length_take]; omega), Ext.refl _⟩
   case round =>
    obtain ⟨k, hk, rfl, hsr, hx⟩ := hrel
    have HSR := Lib.hid hsr; have HX := Lib.hid hx
    have hgl1 := Nat.lt_of_lt_of_le hgl hx.size
    clear hsr
    by_cases hlt : k + 1 < l.length
    · obtain ⟨p, hp⟩ : ∃ p, l[k]? = some p := ⟨_, List.getElem?_eq_getElem (by omega)⟩
      obtain ⟨q, hq⟩ : ∃ q, l[k + 1]? = some q := ⟨_, List.getElem?_eq_getElem hlt⟩
      have HRP := Lib.hid (own_range (own_ext HO.out hx) (rowsE_rwk l) (rowsE_length l) (j := k) (x := p.cells) (by simp [rowsE, hp]))
      have HRQ := Lib.hid (own_range (own_ext HO.out hx) (rowsE_rwk l) (rowsE_length l) (j := k + 1) (x := q.cells) (by simp [rowsE, hq]))
      have hn := eqEd_run q p
      have hwk : IntKind.i64.wrap (k : Int) = (k : Int) := by rw [IntKind.wrap_i64]; omega
      have hi0 : 0 ≤ (k : Int) + 1 := by omega
      have hi1 : ¬ ((l.length : Int) ≤ (k : Int) + 1) := by omega
      have hkl : k < l.length := by omega
      have HP := Lib.hid hp; have HQ := Lib.hid hq
      have HSUB := Lib.hid (hn)
      clear hp hq hx
      generalize hbb : decide (q = p) = bb at hn
      have HBB := Lib.hid hbb
      clear hbb HSUB
      go_upto_region 6 with fail
      refine wp_region_relD (w := wr) (fun i v w' => match i with
          | 0 => v = .slice (some ⟨g, 0, none⟩) l.length c
          | 1 => v = .int .i64 ((k + 1 : Nat) : Int)
          | 2 => v = .pointer (some ⟨g, (k + 1) * 17, none⟩)
          | 3 => v = .agg q.cells.toArray
          | 4 => v = .slice (some ⟨g, 0, none⟩) l.length c
          | 5 => v = .int .i64 ((k + 1 : Nat) : Int)
          | 6 => v = .int .i64 (k : Nat)
          | 7 => v = .pointer (some ⟨g, k * 17, none⟩)
          | 8 => v = .agg p.cells.toArray
          | 9 => v = .bool bb
          | _ => True) hm (by kernel_rfl) (by kernel_rfl) rfl ?_ ?_ ?_
      · intro i v w1 w2 hx h
        match i, h with
        | 0, h => exact h
        | 1, h => exact h
        | 2, h => exact h
        | 3, h => exact h
        | 4, h => exact h
        | 5, h => exact h
        | 6, h => exact h
        | 7, h => exact h
        | 8, h => exact h
        | 9, h => exact h
        | i + 10, h => exact trivial
      · intro i o ho b w1 hx hmiss hdep K hK
        match i, ho with
        | 0, ho =>
          obtain rfl := Option.some.inj ho
          refine want_none rfl ?_
          have e0 : b.tmps[0]? = some (.slice (some ⟨g, 0, none⟩) l.length c) := hmiss 0 rfl
          exact op_move rfl (eval_of e0) (hK _ w1 (ExtD.refl _) rfl)
        | 1, ho =>
          obtain rfl := Option.some.inj ho
          refine want_none rfl ?_
          have e3 : b.tmps[3]? = some (.int .i64 ((k + 1 : Nat) : Int)) := hmiss 3 rfl
          exact op_move rfl (eval_of e3) (hK _ w1 (ExtD.refl _) rfl)
        | 2, ho =>
          obtain rfl := Option.some.inj ho
          refine want_none rfl ?_
          obtain ⟨v16, g16, e16⟩ := hdep 0 rfl
          have g16 : v16 = .slice (some ⟨g, 0, none⟩) l.length c := g16
          subst g16
          have e16 := e16 16 rfl
          obtain ⟨v17, g17, e17⟩ := hdep 1 rfl
          have g17 : v17 = .int .i64 ((k + 1 : Nat) : Int) := g17
          subst g17
          have e17 := e17 17 rfl
          exact op_run (by unfold execOp; simp [e16, e17, Act.eval, go_sem, hi0, hi1]) (hK _ w1 (ExtD.refl _) rfl)
        | 3, ho =>
          obtain rfl := Option.some.inj ho
          refine want_none rfl ?_
          obtain ⟨v18, g18, e18⟩ := hdep 2 rfl
          have g18 : v18 = .pointer (some ⟨g, (k + 1) * 17, none⟩) := g18
          subst g18
          have e18 := e18 18 rfl
          exact wp_load_mid 29 (.tmp 18) rfl g ((k + 1) * 17) (eval_of e18) q.cells _ (rangeAt_ext HRQ.out hgl1 hx.ext) Tryz.underlying29 rfl (by kernel_rfl) (hK _ w1 (ExtD.refl _) rfl)
        | 4, ho =>
          obtain rfl := Option.some.inj ho
          refine want_none rfl ?_
          have e0 : b.tmps[0]? = some (.slice (some ⟨g, 0, none⟩) l.length c) := hmiss 0 rfl
          exact op_move rfl (eval_of e0) (hK _ w1 (ExtD.refl _) rfl)
        | 5, ho =>
          obtain rfl := Option.some.inj ho
          refine want_none rfl ?_
          have e3 : b.tmps[3]? = some (.int .i64 ((k + 1 : Nat) : Int)) := hmiss 3 rfl
          exact op_move rfl (eval_of e3) (hK _ w1 (ExtD.refl _) rfl)
        | 6, ho =>
          obtain rfl := Option.some.inj ho
          refine want_none rfl ?_
          obtain ⟨v21, g21, e21⟩ := hdep 5 rfl
          have g21 : v21 = .int .i64 ((k + 1 : Nat) : Int) := g21
          subst g21
          have e21 := e21 21 rfl
          exact op_run (by unfold execOp; simp [e21, Act.eval, go_sem, hwk]) (hK _ w1 (ExtD.refl _) rfl)
        | 7, ho =>
          obtain rfl := Option.some.inj ho
          refine want_none rfl ?_
          obtain ⟨v20, g20, e20⟩ := hdep 4 rfl
          have g20 : v20 = .slice (some ⟨g, 0, none⟩) l.length c := g20
          subst g20
          have e20 := e20 20 rfl
          obtain ⟨v22, g22, e22⟩ := hdep 6 rfl
          have g22 : v22 = .int .i64 (k : Nat) := g22
          subst g22
          have e22 := e22 22 rfl
          exact op_run (by unfold execOp; simp [e20, e22, Act.eval, go_sem, hkl]) (hK _ w1 (ExtD.refl _) rfl)
        | 8, ho =>
          obtain rfl := Option.some.inj ho
          refine want_none rfl ?_
          obtain ⟨v23, g23, e23⟩ := hdep 7 rfl
          have g23 : v23 = .pointer (some ⟨g, k * 17, none⟩) := g23
          subst g23
          have e23 := e23 23 rfl
          exact wp_load_mid 29 (.tmp 23) rfl g (k * 17) (eval_of e23) p.cells _ (rangeAt_ext HRP.out hgl1 hx.ext) Tryz.underlying29 rfl (by kernel_rfl) (hK _ w1 (ExtD.refl _) rfl)
        | 9, ho =>
          obtain rfl := Option.some.inj ho
          refine want_none rfl ?_
          obtain ⟨v19, g19, e19⟩ := hdep 3 rfl
          have g19 : v19 = .agg q.cells.toArray := g19
          subst g19
          have e19 := e19 19 rfl
          obtain ⟨v24, g24, e24⟩ := hdep 8 rfl
          have g24 : v24 = .agg p.cells.toArray := g24
          subst g24
          have e24 := e24 24 rfl
          exact op_run (by unfold execOp; simp [e19, e24, Act.eval, go_sem, hn]) (hK _ w1 (ExtD.refl _) rfl)
        | i + 10, ho => cases ho
      · intro V W6 hx hg
        have q0 : V 9 = .bool bb := hg 9 (by decide)
        simp only [List.length_cons, List.length_nil, fillAllN, dstOf, Act.put, List.getElem?_toArray, List.getElem?_cons_zero, List.getElem?_cons_succ, Option.bind_some, List.setIfInBounds_toArray, List.set_cons_zero, List.set_cons_succ, q0]
        have HX1 := Lib.hid (HX.out.trans hx.ext)
        clear hg q0 hx hn
        have hck : ¬ c = k + 1 := by omega
        have hck2 : k + 1 ≤ c := by omega
        cases bb
        · have hqp : q ≠ p := by simpa using HBB.out
          have HSR2 := Lib.hid (HL.out.step ordE HSR.out HP.out HQ.out hqp)
          clear hqp
          go_wp2
          go_roundw
          case rel => exact ⟨k + 1, by omega, by go_num, HSR2.out, HX1.out⟩
          case measure => simp [intOf]; omega
        · have hqp : q = p := by simpa using HBB.out
          have HM := Lib.hid (CMidR.start (r := befE) (k := k) HSR.out HP.out (hqp ▸ HQ.out))
          clear hqp
          go_wp2_with fail
          go_loopw [3, 5] (fun i j wv => ∃ (i' d : Nat) (ys : List Ed), i = .int .i64 (i' + 1 : Nat) ∧ j = .int .i64 (d + 1 : Nat) ∧ CMidR befE l ys i' (k + 1 + d) ∧ wv.ownsRow base 29 17 (.slice (some ⟨g, 0, none⟩) l.length c) l.length (rowsE ys).flatten ∧ w.grownBy wv (some g)) (fun _ j _ => l.length - (intOf j).toNat)
          case atStart => exact ⟨k, 0, l, by go_num, by go_num, HM.out, own_ext HO.out HX1.out, HX1.out.by_ _⟩
          case round =>
           obtain ⟨i, d, ys, rfl, rfl, hM, hO, hW⟩ := hrel
           have hij := hM.ij
           have hjn := hM.jn
           have hyl := hM.len
           have hgl2 := Nat.lt_of_lt_of_le hgl hW.size
           have HMM := Lib.hid hM; have HOO := Lib.hid hO; have HWW := Lib.hid hW; have HYL := Lib.hid hyl
           by_cases hlt2 : k + 1 + d + 1 < l.length
           · obtain ⟨p', hp'⟩ : ∃ p, l[k + 1 + d]? = some p := ⟨_, List.getElem?_eq_getElem (by omega)⟩
             obtain ⟨q', hq'⟩ : ∃ q, l[k + 1 + d + 1]? = some q := ⟨_, List.getElem?_eq_getElem hlt2⟩
             have hrp := own_range hO (rowsE_rwk ys) ((rowsE_length ys).trans hyl) (j := k + 1 + d) (x := p'.cells) (by simp [rowsE, (hM.tail _ (Nat.le_refl _)).trans hp'])
             have hrq := own_range hO (rowsE_rwk ys) ((rowsE_length ys).trans hyl) (j := k + 1 + d + 1) (x := q'.cells) (by simp [rowsE, (hM.tail _ (by omega)).trans hq'])
             rw [show (k + 1 + d) * 17 = (k + 1) * 17 + d * 17 by omega] at hrp
             rw [show (k + 1 + d + 1) * 17 = (k + 1) * 17 + (d + 1) * 17 by omega] at hrq
             have HRP2 := Lib.hid hrp; have HRQ2 := Lib.hid hrq
             have hn := neqEd_run q' p'
             have HP' := Lib.hid hp'; have HQ' := Lib.hid hq'
             have hlt3 : d + 1 < l.length - (k + 1) := by omega
             have hdl : d < l.length - (k + 1) := by omega
             have hwd : IntKind.i64.wrap (d : Int) = (d : Int) := by rw [IntKind.wrap_i64]; omega
             have hi2 : 0 ≤ (d : Int) + 1 := by omega
             have hi3 : ¬ (((l.length - (k + 1) : Nat) : Int) ≤ (d : Int) + 1) := by omega
             clear hM hO hW hyl hp' hq' hrp hrq
             generalize hbb : decide (q' ≠ p') = bb2 at hn
             have HBB2 := Lib.hid hbb
             clear hbb
             go_upto_region 11 with fail
             refine wp_region_relD (w := wr) (fun i v w' => match i with
                 | 0 => v = .slice (some ⟨g, (k + 1) * 17, none⟩) (l.length - (k + 1)) (c - (k + 1))
                 | 1 => v = .int .i64 ((d + 1 : Nat) : Int)
                 | 2 => v = .pointer (some ⟨g, (k + 1) * 17 + (d + 1) * 17, none⟩)
                 | 3 => v = .agg q'.cells.toArray
                 | 4 => v = .slice (some ⟨g, (k + 1) * 17, none⟩) (l.length - (k + 1)) (c - (k + 1))
                 | 5 => v = .int .i64 ((d + 1 : Nat) : Int)
                 | 6 => v = .int .i64 (d : Nat)
                 | 7 => v = .pointer (some ⟨g, (k + 1) * 17 + d * 17, none⟩)
                 | 8 => v = .agg p'.cells.toArray
                 | 9 => v = .bool bb2
                 | _ => True) hm (by kernel_rfl) (by kernel_rfl) rfl ?_ ?_ ?_
             · intro i v w1 w2 hx h
               match i, h with
               | 0, h => exact h
               | 1, h => exact h
               | 2, h => exact h
               | 3, h => exact h
               | 4, h => exact h
               | 5, h => exact h
               | 6, h => exact h
               | 7, h => exact h
               | 8, h => exact h
               | 9, h => exact h
               | i + 10, h => exact trivial
             · intro i o ho b w1 hx hmiss hdep K hK
               match i, ho with
               | 0, ho =>
                 obtain rfl := Option.some.inj ho
                 refine want_none rfl ?_
                 have e4 : b.tmps[4]? = some (.slice (some ⟨g, (k + 1) * 17, none⟩) (l.length - (k + 1)) (c - (k + 1))) := hmiss 4 rfl
                 exact op_move rfl (eval_of e4) (hK _ w1 (ExtD.refl _) rfl)
               | 1, ho =>
                 obtain rfl := Option.some.inj ho
                 refine want_none rfl ?_
                 have e5 : b.tmps[5]? = some (.int .i64 ((d + 1 : Nat) : Int)) := hmiss 5 rfl
                 exact op_move rfl (eval_of e5) (hK _ w1 (ExtD.refl _) rfl)
               | 2, ho =>
                 obtain rfl := Option.some.inj ho
                 refine want_none rfl ?_
                 obtain ⟨v35, g35, e35⟩ := hdep 0 rfl
                 have g35 : v35 = .slice (some ⟨g, (k + 1) * 17, none⟩) (l.length - (k + 1)) (c - (k + 1)) := g35
                 subst g35
                 have e35 := e35 35 rfl
                 obtain ⟨v36, g36, e36⟩ := hdep 1 rfl
                 have g36 : v36 = .int .i64 ((d + 1 : Nat) : Int) := g36
                 subst g36
                 have e36 := e36 36 rfl
                 exact op_run (by unfold execOp; simp [e35, e36, Act.eval, go_sem, hi2, hi3]) (hK _ w1 (ExtD.refl _) rfl)
               | 3, ho =>
                 obtain rfl := Option.some.inj ho
                 refine want_none rfl ?_
                 obtain ⟨v37, g37, e37⟩ := hdep 2 rfl
                 have g37 : v37 = .pointer (some ⟨g, (k + 1) * 17 + (d + 1) * 17, none⟩) := g37
                 subst g37
                 have e37 := e37 37 rfl
                 exact wp_load_mid 29 (.tmp 37) rfl g ((k + 1) * 17 + (d + 1) * 17) (eval_of e37) q'.cells _ (rangeAt_ext HRQ2.out hgl2 hx.ext) Tryz.underlying29 rfl (by kernel_rfl) (hK _ w1 (ExtD.refl _) rfl)
               | 4, ho =>
                 obtain rfl := Option.some.inj ho
                 refine want_none rfl ?_
                 have e4 : b.tmps[4]? = some (.slice (some ⟨g, (k + 1) * 17, none⟩) (l.length - (k + 1)) (c - (k + 1))) := hmiss 4 rfl
                 exact op_move rfl (eval_of e4) (hK _ w1 (ExtD.refl _) rfl)
               | 5, ho =>
                 obtain rfl := Option.some.inj ho
                 refine want_none rfl ?_
                 have e5 : b.tmps[5]? = some (.int .i64 ((d + 1 : Nat) : Int)) := hmiss 5 rfl
                 exact op_move rfl (eval_of e5) (hK _ w1 (ExtD.refl _) rfl)
               | 6, ho =>
                 obtain rfl := Option.some.inj ho
                 refine want_none rfl ?_
                 obtain ⟨v40, g40, e40⟩ := hdep 5 rfl
                 have g40 : v40 = .int .i64 ((d + 1 : Nat) : Int) := g40
                 subst g40
                 have e40 := e40 40 rfl
                 exact op_run (by unfold execOp; simp [e40, Act.eval, go_sem, hwd]) (hK _ w1 (ExtD.refl _) rfl)
               | 7, ho =>
                 obtain rfl := Option.some.inj ho
                 refine want_none rfl ?_
                 obtain ⟨v39, g39, e39⟩ := hdep 4 rfl
                 have g39 : v39 = .slice (some ⟨g, (k + 1) * 17, none⟩) (l.length - (k + 1)) (c - (k + 1)) := g39
                 subst g39
                 have e39 := e39 39 rfl
                 obtain ⟨v41, g41, e41⟩ := hdep 6 rfl
                 have g41 : v41 = .int .i64 (d : Nat) := g41
                 subst g41
                 have e41 := e41 41 rfl
                 exact op_run (by unfold execOp; simp [e39, e41, Act.eval, go_sem, hdl]) (hK _ w1 (ExtD.refl _) rfl)
               | 8, ho =>
                 obtain rfl := Option.some.inj ho
                 refine want_none rfl ?_
                 obtain ⟨v42, g42, e42⟩ := hdep 7 rfl
                 have g42 : v42 = .pointer (some ⟨g, (k + 1) * 17 + d * 17, none⟩) := g42
                 subst g42
                 have e42 := e42 42 rfl
                 exact wp_load_mid 29 (.tmp 42) rfl g ((k + 1) * 17 + d * 17) (eval_of e42) p'.cells _ (rangeAt_ext HRP2.out hgl2 hx.ext) Tryz.underlying29 rfl (by kernel_rfl) (hK _ w1 (ExtD.refl _) rfl)
               | 9, ho =>
                 obtain rfl := Option.some.inj ho
                 refine want_none rfl ?_
                 obtain ⟨v38, g38, e38⟩ := hdep 3 rfl
                 have g38 : v38 = .agg q'.cells.toArray := g38
                 subst g38
                 have e38 := e38 38 rfl
                 obtain ⟨v43, g43, e43⟩ := hdep 8 rfl
                 have g43 : v43 = .agg p'.cells.toArray := g43
                 subst g43
                 have e43 := e43 43 rfl
                 exact op_run (by unfold execOp; simp [e38, e43, Act.eval, go_sem, hn]) (hK _ w1 (ExtD.refl _) rfl)
               | i + 10, ho => cases ho
             · intro V W11 hx hg
               have q0 : V 9 = .bool bb2 := hg 9 (by decide)
               simp only [List.length_cons, List.length_nil, fillAllN, dstOf, Act.put, List.getElem?_toArray, List.getElem?_cons_zero, List.getElem?_cons_succ, Option.bind_some, List.setIfInBounds_toArray, List.set_cons_zero, List.set_cons_succ, q0]
               have HY := Lib.hid hx.ext
               have hgl3 := Nat.lt_of_lt_of_le hgl2 hx.ext.size
               have HRQ3 := Lib.hid (rangeAt_ext HRQ2.out hgl2 hx.ext)
               clear hg q0 hx hn
               cases bb2
               · have hqp : q' = p' := by simpa using HBB2.out
                 have HM2 := Lib.hid (HMM.out.skip (hqp ▸ HP'.out) HQ'.out)
                 clear hqp
                 go_wp2
                 go_roundw
                 case rel => exact ⟨i, d + 1, ys, rfl, by go_num, HM2.out, own_ext HOO.out HY.out, grown_ext HWW.out HY.out⟩
                 case measure => simp [intOf]; omega
               · have hqp : q' ≠ p' := by simpa using HBB2.out
                 have HM2 := Lib.hid (HMM.out.put ordE HL.out HP'.out HQ'.out hqp)
                 clear hqp
                 have HO2 := Lib.hid (own_ext HOO.out HY.out)
                 have hlt4 : i + 1 < l.length := by omega
                 have HTH := Lib.hid (show W11.there g ((i + 1) * 17) q'.cells.toArray.size from own_there HO2.out (o := (i + 1) * 17) (m := 17) (by omega))
                 have hset := own_setCells q'.cells ((i + 1) * 17) W11 (rowsE ys).flatten (by rw [flatten_length _ (rowsE_rwk ys).len, rowsE_length, HYL.out]; show (i + 1) * 17 + 17 ≤ l.length * 17; omega) HO2.out
                 have hfl := set_flatten (rowsE ys) (i + 1) q'.cells (rowsE_rwk ys).len rfl (by rw [rowsE_length, HYL.out]; omega)
                 rw [← hfl, ← rowsE_set] at hset
                 have HSET := Lib.hid hset
                 clear hset hfl
                 go_wp2_with (first
                  | (with_reducible refine wpList_load_mid rfl 29 (.tmp 49) rfl g ((k + 1) * 17 + (d + 1) * 17) rfl q'.cells _ HRQ3.out Tryz.underlying29 rfl (by kernel_rfl) ?_)
                  | (with_reducible refine wpList_store_mid rfl 29 (.tmp 51) (.tmp 50) rfl g ((i + 1) * 17) q'.cells.toArray rfl rfl HTH.out (by kernel_rfl) (by rw [List.all_toArray, List.all_eq_true]; exact q'.one) ?_))
                 go_roundw
                 case rel => exact ⟨i + 1, d + 1, ys.set (i + 1) q', by go_num, by go_num, HM2.out, HSET.out.1, grown_trans (grown_ext HWW.out HY.out) HSET.out.2.1⟩
                 case measure => simp [intOf]; omega
           · have hj : k + 1 + d + 1 = l.length := by omega
             have HRES := Lib.hid (show Srt befE (ys.take (i + 1)) ∧ ∀ q, q ∈ ys.take (i + 1) ↔ q ∈ l from ⟨HMM.out.srt, fun q => by rw [HMM.out.mem, hj, List.take_length]⟩)
             obtain ⟨cur, hbg2, hcur, hnc2, hcm2, hcl, htk⟩ := own_cur hO
             have HT := Lib.hid htk
             have HCL := Lib.hid hcl
             have HC := Lib.hid hcur
             obtain ⟨dd, hd⟩ : ∃ dd, l.length - (i + 1) = dd + 1 := ⟨l.length - (i + 1) - 1, by omega⟩
             have HD := Lib.hid hd
             have hic : ¬ c = i + 1 := by omega
             have hic2 : i + 1 ≤ l.length := by omega
             have hic3 : i + 1 ≤ c := by omega
             have hlt3 : ¬ (d + 1 < l.length - (k + 1)) := by omega
             clear hM hO hW hyl htk hcl hcur hd
             go_wp2_with (with_reducible refine wpList_clear_rows (n := dd) rfl (.tmp 56) 35 rfl 29 17 (.agg #[.int .i64 0, .int .i64 0, .int .i64 0, .int .i64 0, .int .i64 0, .int .i64 0, .int .i64 0, .int .i64 0, .int .i64 0, .int .i64 0, .int .i64 0, .int .i64 0, .int .i64 0, .int .i64 0, .int .i64 0, .int .i64 0, .int .i64 0]) Tryz.underlying35 zeroEdV rfl ?h1 g ((i + 1) * 17) (c - (i + 1)) ?h2 cur 29 HC.out ?h3 ?_)
             case h1 => exact zeros_one _ _ (by decide) (by decide)
             case h2 => simp [go_sem, HD.out]
             case h3 => have := HCL.out; have := HD.out; omega
             have hil : i + 1 = (ys.take (i + 1)).length := by rw [List.length_take, HYL.out]; omega
             have HIL := Lib.hid hil; clear hil
             go_ret
             have hD := HD.out
             have hz : (Builtin.zeroCells #[.int .i64 0, .int .i64 0, .int .i64 0, .int .i64 0, .int .i64 0, .int .i64 0, .int .i64 0, .int .i64 0, .int .i64 0, .int .i64 0, .int .i64 0, .int .i64 0, .int .i64 0, .int .i64 0, .int .i64 0, .int .i64 0, .int .i64 0] (dd + 1)).toList.length = (dd + 1) * 17 := by rw [Array.length_toList, size_zeroCells]; rfl
             refine ⟨ys.take (i + 1), HRES.out.1, HRES.out.2, by rw [← HIL.out]; rfl, ?_, grown_row HWW.out _⟩
             rw [← HIL.out, rowsE_take, flatten_take (rowsE ys) (i + 1) (rowsE_rwk ys).len (by rw [rowsE_length, HYL.out]; omega)]
             refine own_of_cur hbg2 (setRow_heap wr g _ _ _ _ HC.out) (by omega) hcm2 (by rw [length_splice _ _ _ (by rw [hz, HCL.out]; omega)]; exact HCL.out) ?_
             rw [splice_take _ _ _ (by rw [HCL.out]; omega), ← HT.out, List.take_take]
             congr 1; omega
    · obtain hkl : k + 1 = l.length := by omega
      have HK := Lib.hid hkl
      go_wp2
      go_ret
      exact ⟨l, by have h := HSR.out; rw [HK.out, List.take_length] at h; exact h, fun q => Iff.rfl, rfl, own_ext HO.out HX.out, HX.out.by_ _⟩
end Go.Proofs.YtlinhgannajfpaaGreatDoor

/- slices.Compact at Nm, on a row of the call's own that is in order. -/
namespace Go.Proofs.YtlinhgannajfpaaGreatDoor
open Go Go.RowKit

end Go.Proofs.YtlinhgannajfpaaGreatDoor

/- stamp.Compare, edit.Compare. -/
namespace Go.Proofs.YtlinhgannajfpaaGreatDoor
open Go Go.RowKit

set_option maxHeartbeats 1000000 in
theorem parts_D (s : Sp) (w : World) :
    Calls Tryz.prog 87 #[.agg #[.int .i64 s.tick, .int .i64 s.clock, .int .i64 s.site, .int .i64 s.seq]] w fun e w' => e = .returned (.agg #[.int .i64 s.tick, .int .i64 s.clock, .int .i64 s.site, .int .i64 s.seq]) ∧ ExtD w w' := by
 go_enter Tryz.func87, Tryz.ntmps87
 go_wp2
 refine bodyPost_ret (v := .agg #[.int .i64 s.tick, .int .i64 s.clock, .int .i64 s.site, .int .i64 s.seq]) ?_ rfl ?_
 · simp (maxDischargeDepth := 9) only [results, Tryz.results87]
   first
    | (go_simp; done)
    | (go_simp; simp; done)
    | (simp (maxDischargeDepth := 9) [go_sem, *]; done)
    | (simp (maxDischargeDepth := 9) [go_sem, *]; simp)
 · exact ⟨rfl, byXD⟩
set_option maxHeartbeats 1000000 in
theorem order_any (A : Option Addr) (c : Nat) (l : List Int) (n B : Nat) (w : World) (hs : Sv w B 1 A c (rowsI l)) (hB : B ≤ w.heap.size) (hn : l.length = n) :
    Calls Tryz.prog 99 #[.slice A n c] w fun e w' => e = .returned (.int .i64 (orL l)) ∧ w = w' := by
 subst hn
 have H := Lib.hid (Or_any A c l B w hs hB)
 clear hs hB
 go_enter Tryz.func99, Tryz.ntmps99
 go_wp2_with (go_at_call 63; refine H.out.mono ?_; rintro e w' ⟨rfl, rfl⟩)
 go_ret
 exact ⟨rfl, rfl⟩
def numsS (s : Sp) : List Int := [s.tick, s.clock, s.site, s.seq]
def cmpS (a b : Sp) : Int := orL [cmpI a.tick b.tick, cmpI a.clock b.clock, cmpI a.site b.site, cmpI a.seq b.seq]
theorem cmpS_eq (a b : Sp) : cmpS a b = cmpV (numsS a) (numsS b) := by
 unfold cmpS numsS
 rw [cmpV_cons, cmpV_cons, cmpV_cons, cmpV_cons]
 rfl
set_option maxRecDepth 100000 in
set_option maxHeartbeats 4000000 in
theorem stampCompare_any (p q : Sp) (w : World) :
    Calls Tryz.prog 64 #[.agg #[.int .i64 p.tick, .int .i64 p.clock, .int .i64 p.site, .int .i64 p.seq], .agg #[.int .i64 q.tick, .int .i64 q.clock, .int .i64 q.site, .int .i64 q.seq]] w fun e w' => e = .returned (.int .i64 (cmpS p q)) ∧ ExtD w w' := by
 have hm := mixed
 have hG := nearD_old
 have hzz : ∃ i z, (Tryz.prog).info? 98 = some i ∧ i.zero = some z ∧ z.cells.toList = [.int .i64 0, .int .i64 0, .int .i64 0, .int .i64 0] := by
  have h : (Tryz.prog.info? 98).map (fun i => (i.zero.map (fun z => z.cells.toList))) = some (some [.int .i64 0, .int .i64 0, .int .i64 0, .int .i64 0]) := by kernel_rfl
  cases hq : Tryz.prog.info? 98 with
  | none => rw [hq] at h; cases h
  | some i =>
    rw [hq] at h
    simp only [Option.map_some, Option.some.injEq] at h
    obtain ⟨z, h1, h2⟩ := Option.map_eq_some_iff.1 h
    exact ⟨i, z, rfl, h1, h2⟩
 have HZ := Lib.hid hzz
 clear hzz
 have B0 := (Arr.new w 23 [.int .i64 p.tick, .int .i64 p.clock, .int .i64 p.site, .int .i64 p.seq]).alloc (.cells #[.int .i64 q.tick, .int .i64 q.clock, .int .i64 q.site, .int .i64 q.seq] 23)
 have B1 := Arr.new (w.alloc (.cells #[.int .i64 p.tick, .int .i64 p.clock, .int .i64 p.site, .int .i64 p.seq] 23)) 23 [.int .i64 q.tick, .int .i64 q.clock, .int .i64 q.site, .int .i64 q.seq]
 rw [World.size_alloc_] at B1
 have hx0 : ExtD w ((w.alloc (.cells #[.int .i64 p.tick, .int .i64 p.clock, .int .i64 p.site, .int .i64 p.seq] 23)).alloc (.cells #[.int .i64 q.tick, .int .i64 q.clock, .int .i64 q.site, .int .i64 q.seq] 23)) := ((ExtD.refl w).alloc _).alloc _
 have HB0 := Lib.hid B0; have HB1 := Lib.hid B1; have HX0 := Lib.hid hx0
 clear B0 B1 hx0
 go_enter Tryz.func64, Tryz.ntmps64
 go_upto_region 1 with fail
 obtain ⟨W0, hW⟩ : ∃ W, W = (w.alloc (.cells #[.int .i64 p.tick, .int .i64 p.clock, .int .i64 p.site, .int .i64 p.seq] 23)).alloc (.cells #[.int .i64 q.tick, .int .i64 q.clock, .int .i64 q.site, .int .i64 q.seq] 23) := ⟨_, rfl⟩
 rw [← hW] at HB0 HB1 HX0
 rw [← hW]
 clear hW
 refine wp_region_two (w := W0) (fun i => match i with | 0 => .agg #[.int .i64 p.tick, .int .i64 p.clock, .int .i64 p.site, .int .i64 p.seq] | 1 => .agg #[.int .i64 p.tick, .int .i64 p.clock, .int .i64 p.site, .int .i64 p.seq] | 2 => .agg #[.int .i64 q.tick, .int .i64 q.clock, .int .i64 q.site, .int .i64 q.seq] | 3 => .agg #[.int .i64 q.tick, .int .i64 q.clock, .int .i64 q.site, .int .i64 q.seq] | _ => undef) 4 98 5 6 8 10 1 3 [.int .i64 0, .int .i64 0, .int .i64 0, .int .i64 0] [.int .i64 p.tick, .int .i64 p.clock, .int .i64 p.site, .int .i64 p.seq] [.int .i64 q.tick, .int .i64 q.clock, .int .i64 q.site, .int .i64 q.seq] hm (by kernel_rfl) (by kernel_rfl) (noGuardD (by kernel_rfl)) rfl ⟨_, rfl, rfl, rfl⟩ ⟨_, rfl, rfl, rfl⟩ ⟨_, rfl, rfl, rfl, rfl, rfl⟩ ⟨_, rfl, rfl, rfl, rfl, rfl⟩ (by decide) (by decide) rfl rfl (by simp) (by simp) (by simp) (by simp) rfl rfl HZ.out (by kernel_rfl) rfl rfl rfl rfl ?_ ?_
 · intro listed w1 i o ho hin hdep hx b K E0 E1 hK
   match i, ho with
   | 0, ho =>
     obtain rfl := Option.some.inj ho
     have e := E0 2 (by kernel_rfl)
     simp only [List.getElem?_toArray, List.getElem?_cons_zero, List.getElem?_cons_succ] at e
     exact op_loadrow rfl (eval_of e) (HB0.out.ext hx.ext) _ Tryz.underlying23 rfl (by kernel_rfl) (hK w1 (ExtD.refl _))
   | 1, ho =>
     obtain rfl := Option.some.inj ho
     have e := E1 0 7 (by decide) (getD_up (hdep ⟨0, .data⟩ (by simp) rfl)) rfl (by simp)
     refine op_callD (G := fun v _ => v = .agg #[.int .i64 p.tick, .int .i64 p.clock, .int .i64 p.site, .int .i64 p.seq]) rfl (by simp [eval_of e]) (fun _ _ => by kernel_rfl) ((parts_D p w1).mono fun e w' h => ⟨_, h.1, h.2, rfl⟩) (fun v w' h g => ?_)
     subst g
     exact hK w' h
   | 2, ho =>
     obtain rfl := Option.some.inj ho
     have e := E0 3 (by kernel_rfl)
     simp only [List.getElem?_toArray, List.getElem?_cons_zero, List.getElem?_cons_succ] at e
     exact op_loadrow rfl (eval_of e) (HB1.out.ext hx.ext) _ Tryz.underlying23 rfl (by kernel_rfl) (hK w1 (ExtD.refl _))
   | 3, ho =>
     obtain rfl := Option.some.inj ho
     have e := E1 2 9 (by decide) (getD_up (hdep ⟨2, .data⟩ (by simp) rfl)) rfl (by simp)
     refine op_callD (G := fun v _ => v = .agg #[.int .i64 q.tick, .int .i64 q.clock, .int .i64 q.site, .int .i64 q.seq]) rfl (by simp [eval_of e]) (fun _ _ => by kernel_rfl) ((parts_D q w1).mono fun e w' h => ⟨_, h.1, h.2, rfl⟩) (fun v w' h g => ?_)
     subst g
     exact hK w' h
   | i + 4, ho => omega
 · rintro ⟨g0, g1⟩ W1 hx hl0 hl1 A0 A1 hne
   simp only [List.length_cons, List.length_nil, fillAllN, dstOf, Act.put, List.getElem?_toArray, List.getElem?_cons_zero, List.getElem?_cons_succ, Option.bind_some, List.setIfInBounds_toArray, List.set_cons_zero, List.set_cons_succ, box2V]
   have HX1 := Lib.hid (HX0.out.trans hx)
   have d0 := A0.cell 0
   have d1 := A0.cell 1
   have d2 := A0.cell 2
   have d3 := A0.cell 3
   have e0 := A1.cell 0
   have e1 := A1.cell 1
   have e2 := A1.cell 2
   have e3 := A1.cell 3
   have l0 := A0.lt
   have l1 := A1.lt
   simp only [List.getElem?_cons_zero, List.getElem?_cons_succ] at d0 d1 d2 d3 e0 e1 e2 e3
   clear A0 A1 hx hl0 hl1 hne
   go_upto_region 2 with fail
   refine wp_region_nearD_tail 20 hm (by kernel_rfl) ?_
   simp only [List.take_succ_cons, List.take_zero, List.drop_succ_cons, List.drop_zero]
   repeat (go_big_quiet_step ((go_at_call 100; exact nearD_same (Compare_any _ _ _))))
   refine wpQuiet_nil ?_
   intro w1 hw1
   have HY := Lib.hid (HX1.out.trans (ExtD.of_nearD hw1))
   clear hw1 d0 d1 d2 d3 e0 e1 e2 e3 l0 l1 hG
   generalize hc0 : cmpI p.tick q.tick = c0
   generalize hc1 : cmpI p.clock q.clock = c1
   generalize hc2 : cmpI p.site q.site = c2
   generalize hc3 : cmpI p.seq q.seq = c3
   have HC := Lib.hid (show orL [c0, c1, c2, c3] = cmpS p q by rw [← hc0, ← hc1, ← hc2, ← hc3]; rfl)
   clear hc0 hc1 hc2 hc3
   have HO := Lib.hid (order_any _ 4 [c0, c1, c2, c3] 4 _ (w1.alloc (.cells ([c0, c1, c2, c3].map (Value.int .i64)).toArray 3)) (sv_new w1 [c0, c1, c2, c3] (by simp)) (Nat.le_refl _) rfl)
   have HX2 := Lib.hid (HY.out.alloc (.cells ([c0, c1, c2, c3].map (Value.int .i64)).toArray 3))
   go_wp2_with (first
    | (refine wpList_buildRow rfl 83 3 31 rfl 1 (by decide) (by decide) ([.int .i64 c0, .int .i64 c1, .int .i64 c2, .int .i64 c3]) rfl rfl Tryz.underlying83 (by kernel_rfl) (by kernel_rfl) ?_)
    | (go_at_call 99; refine HO.out.mono ?_; rintro e w' ⟨rfl, rfl⟩))
   go_ret
   exact ⟨ret_int HC.out, HX2.out⟩
def cmpE (x y : Ed) : Int := orL [cmpS x.st y.st, cmpV (numsE x) (numsE y)]
theorem cmpE_eq (x y : Ed) : cmpE x y = cmpV (numsE x) (numsE y) := by
 have h1 : ∀ r r' : List Int, cmpV (x.st.tick :: x.st.clock :: x.st.site :: x.st.seq :: r) (y.st.tick :: y.st.clock :: y.st.site :: y.st.seq :: r') = orI (cmpI x.st.tick y.st.tick) (orI (cmpI x.st.clock y.st.clock) (orI (cmpI x.st.site y.st.site) (orI (cmpI x.st.seq y.st.seq) (cmpV r r')))) := fun r r' => by rw [cmpV_cons, cmpV_cons, cmpV_cons, cmpV_cons]
 have h2 := h1 [] []
 unfold cmpE
 rw [cmpS_eq]
 unfold numsS numsE
 rw [h2, h1, cmpV_self]
 generalize cmpV _ _ = r
 generalize cmpI x.st.tick y.st.tick = c0
 generalize cmpI x.st.clock y.st.clock = c1
 generalize cmpI x.st.site y.st.site = c2
 generalize cmpI x.st.seq y.st.seq = c3
 simp only [orL]
 unfold orI
 repeat' split
 all_goals omega
end Go.Proofs.YtlinhgannajfpaaGreatDoor

/- edit.Compare. -/
namespace Go.Proofs.YtlinhgannajfpaaGreatDoor
open Go Go.RowKit

set_option maxRecDepth 100000 in
set_option maxHeartbeats 8000000 in
theorem CompareEd_any (x y : Ed) (w : World) :
    Calls Tryz.prog 19 #[.agg #[.int .i64 x.st.tick, .int .i64 x.st.clock, .int .i64 x.st.site, .int .i64 x.st.seq, .int .i64 x.kind, .int .i64 x.box.lo.x, .int .i64 x.box.lo.y, .int .i64 x.box.lo.z, .int .i64 x.box.hi.x, .int .i64 x.box.hi.y, .int .i64 x.box.hi.z, .int .i64 x.at_.x, .int .i64 x.at_.y, .int .i64 x.at_.z, .int .i64 x.turn, .int .i64 x.cell, .int .i64 x.size], .agg #[.int .i64 y.st.tick, .int .i64 y.st.clock, .int .i64 y.st.site, .int .i64 y.st.seq, .int .i64 y.kind, .int .i64 y.box.lo.x, .int .i64 y.box.lo.y, .int .i64 y.box.lo.z, .int .i64 y.box.hi.x, .int .i64 y.box.hi.y, .int .i64 y.box.hi.z, .int .i64 y.at_.x, .int .i64 y.at_.y, .int .i64 y.at_.z, .int .i64 y.turn, .int .i64 y.cell, .int .i64 y.size]] w fun e w' => e = .returned (.int .i64 (cmpV (numsE x) (numsE y))) ∧ ExtD w w' := by
 have hm := mixed
 have B0 := (Arr.new w 29 [.int .i64 x.st.tick, .int .i64 x.st.clock, .int .i64 x.st.site, .int .i64 x.st.seq, .int .i64 x.kind, .int .i64 x.box.lo.x, .int .i64 x.box.lo.y, .int .i64 x.box.lo.z, .int .i64 x.box.hi.x, .int .i64 x.box.hi.y, .int .i64 x.box.hi.z, .int .i64 x.at_.x, .int .i64 x.at_.y, .int .i64 x.at_.z, .int .i64 x.turn, .int .i64 x.cell, .int .i64 x.size]).alloc (.cells #[.int .i64 y.st.tick, .int .i64 y.st.clock, .int .i64 y.st.site, .int .i64 y.st.seq, .int .i64 y.kind, .int .i64 y.box.lo.x, .int .i64 y.box.lo.y, .int .i64 y.box.lo.z, .int .i64 y.box.hi.x, .int .i64 y.box.hi.y, .int .i64 y.box.hi.z, .int .i64 y.at_.x, .int .i64 y.at_.y, .int .i64 y.at_.z, .int .i64 y.turn, .int .i64 y.cell, .int .i64 y.size] 29)
 have B1 := Arr.new (w.alloc (.cells #[.int .i64 x.st.tick, .int .i64 x.st.clock, .int .i64 x.st.site, .int .i64 x.st.seq, .int .i64 x.kind, .int .i64 x.box.lo.x, .int .i64 x.box.lo.y, .int .i64 x.box.lo.z, .int .i64 x.box.hi.x, .int .i64 x.box.hi.y, .int .i64 x.box.hi.z, .int .i64 x.at_.x, .int .i64 x.at_.y, .int .i64 x.at_.z, .int .i64 x.turn, .int .i64 x.cell, .int .i64 x.size] 29)) 29 [.int .i64 y.st.tick, .int .i64 y.st.clock, .int .i64 y.st.site, .int .i64 y.st.seq, .int .i64 y.kind, .int .i64 y.box.lo.x, .int .i64 y.box.lo.y, .int .i64 y.box.lo.z, .int .i64 y.box.hi.x, .int .i64 y.box.hi.y, .int .i64 y.box.hi.z, .int .i64 y.at_.x, .int .i64 y.at_.y, .int .i64 y.at_.z, .int .i64 y.turn, .int .i64 y.cell, .int .i64 y.size]
 rw [World.size_alloc_] at B1
 have hx0 : ExtD w ((w.alloc (.cells #[.int .i64 x.st.tick, .int .i64 x.st.clock, .int .i64 x.st.site, .int .i64 x.st.seq, .int .i64 x.kind, .int .i64 x.box.lo.x, .int .i64 x.box.lo.y, .int .i64 x.box.lo.z, .int .i64 x.box.hi.x, .int .i64 x.box.hi.y, .int .i64 x.box.hi.z, .int .i64 x.at_.x, .int .i64 x.at_.y, .int .i64 x.at_.z, .int .i64 x.turn, .int .i64 x.cell, .int .i64 x.size] 29)).alloc (.cells #[.int .i64 y.st.tick, .int .i64 y.st.clock, .int .i64 y.st.site, .int .i64 y.st.seq, .int .i64 y.kind, .int .i64 y.box.lo.x, .int .i64 y.box.lo.y, .int .i64 y.box.lo.z, .int .i64 y.box.hi.x, .int .i64 y.box.hi.y, .int .i64 y.box.hi.z, .int .i64 y.at_.x, .int .i64 y.at_.y, .int .i64 y.at_.z, .int .i64 y.turn, .int .i64 y.cell, .int .i64 y.size] 29)) := ((ExtD.refl w).alloc _).alloc _
 have HB0 := Lib.hid B0; have HB1 := Lib.hid B1; have HX0 := Lib.hid hx0
 clear B0 B1 hx0
 go_enter Tryz.func19, Tryz.ntmps19
 go_upto_region 1 with fail
 obtain ⟨W0, hW⟩ : ∃ W, W = (w.alloc (.cells #[.int .i64 x.st.tick, .int .i64 x.st.clock, .int .i64 x.st.site, .int .i64 x.st.seq, .int .i64 x.kind, .int .i64 x.box.lo.x, .int .i64 x.box.lo.y, .int .i64 x.box.lo.z, .int .i64 x.box.hi.x, .int .i64 x.box.hi.y, .int .i64 x.box.hi.z, .int .i64 x.at_.x, .int .i64 x.at_.y, .int .i64 x.at_.z, .int .i64 x.turn, .int .i64 x.cell, .int .i64 x.size] 29)).alloc (.cells #[.int .i64 y.st.tick, .int .i64 y.st.clock, .int .i64 y.st.site, .int .i64 y.st.seq, .int .i64 y.kind, .int .i64 y.box.lo.x, .int .i64 y.box.lo.y, .int .i64 y.box.lo.z, .int .i64 y.box.hi.x, .int .i64 y.box.hi.y, .int .i64 y.box.hi.z, .int .i64 y.at_.x, .int .i64 y.at_.y, .int .i64 y.at_.z, .int .i64 y.turn, .int .i64 y.cell, .int .i64 y.size] 29) := ⟨_, rfl⟩
 rw [← hW] at HB0 HB1 HX0
 rw [← hW]
 clear hW
 refine wp_region_relD (w := W0) (fun i v w' => match i with
     | 0 => v = .pointer (some ⟨w.heap.size, 0, none⟩)
     | 1 => v = .agg #[.int .i64 x.st.tick, .int .i64 x.st.clock, .int .i64 x.st.site, .int .i64 x.st.seq]
     | 2 => v = .pointer (some ⟨w.heap.size + 1, 0, none⟩)
     | 3 => v = .agg #[.int .i64 y.st.tick, .int .i64 y.st.clock, .int .i64 y.st.site, .int .i64 y.st.seq]
     | 4 => v = .int .i64 (cmpS x.st y.st)
     | 5 => v = .agg #[.int .i64 x.st.tick, .int .i64 x.st.clock, .int .i64 x.st.site, .int .i64 x.st.seq, .int .i64 x.kind, .int .i64 x.box.lo.x, .int .i64 x.box.lo.y, .int .i64 x.box.lo.z, .int .i64 x.box.hi.x, .int .i64 x.box.hi.y, .int .i64 x.box.hi.z, .int .i64 x.at_.x, .int .i64 x.at_.y, .int .i64 x.at_.z, .int .i64 x.turn, .int .i64 x.cell, .int .i64 x.size]
     | 6 => ∃ A' c', v = .slice A' 17 c' ∧ Sv w' w'.heap.size 1 A' c' (rowsI (numsE x))
     | 7 => v = .agg #[.int .i64 y.st.tick, .int .i64 y.st.clock, .int .i64 y.st.site, .int .i64 y.st.seq, .int .i64 y.kind, .int .i64 y.box.lo.x, .int .i64 y.box.lo.y, .int .i64 y.box.lo.z, .int .i64 y.box.hi.x, .int .i64 y.box.hi.y, .int .i64 y.box.hi.z, .int .i64 y.at_.x, .int .i64 y.at_.y, .int .i64 y.at_.z, .int .i64 y.turn, .int .i64 y.cell, .int .i64 y.size]
     | 8 => ∃ A' c', v = .slice A' 17 c' ∧ Sv w' w'.heap.size 1 A' c' (rowsI (numsE y))
     | 9 => v = .int .i64 (cmpV (numsE x) (numsE y))
     | 10 => ∃ b, v = .slice (some ⟨b, 0, none⟩) 2 2 ∧ Sv w' w'.heap.size 1 (some ⟨b, 0, none⟩) 2 (rowsI [cmpS x.st y.st, cmpV (numsE x) (numsE y)])
     | 11 => v = .int .i64 (cmpE x y)
     | 12 => v = .int .i64 (cmpE x y)
     | _ => True) hm (by kernel_rfl) (by kernel_rfl) rfl ?_ ?_ ?_
 · intro i v w1 w2 hx h
   match i, h with
   | 0, h => exact h
   | 1, h => exact h
   | 2, h => exact h
   | 3, h => exact h
   | 4, h => exact h
   | 5, h => exact h
   | 6, h => exact (by obtain ⟨A', c', k1, k2⟩ := h; exact ⟨A', c', k1, k2.ext hx⟩)
   | 7, h => exact h
   | 8, h => exact (by obtain ⟨A', c', k1, k2⟩ := h; exact ⟨A', c', k1, k2.ext hx⟩)
   | 9, h => exact h
   | 10, h => exact (by obtain ⟨b, k1, k2⟩ := h; exact ⟨b, k1, k2.ext hx⟩)
   | 11, h => exact h
   | 12, h => exact h
   | i + 13, h => exact trivial
 · intro i o ho b w1 hx hmiss hdep K hK
   match i, ho with
   | 0, ho =>
     obtain rfl := Option.some.inj ho
     refine want_none rfl ?_
     have e2 : b.tmps[2]? = some (.pointer (some ⟨w.heap.size, 0, none⟩)) := hmiss 2 rfl
     exact op_run (by unfold execOp; simp [e2, Act.eval, go_sem]) (hK _ w1 (ExtD.refl _) rfl)
   | 1, ho =>
     obtain rfl := Option.some.inj ho
     refine want_none rfl ?_
     obtain ⟨v5, g5, e5⟩ := hdep 0 rfl
     have g5 : v5 = .pointer (some ⟨w.heap.size, 0, none⟩) := g5
     subst g5
     have e5 := e5 5 rfl
     refine wp_load_mid 23 (.tmp 5) rfl _ 0 (eval_of e5) [.int .i64 x.st.tick, .int .i64 x.st.clock, .int .i64 x.st.site, .int .i64 x.st.seq] _ (fun j v hv => ?_) Tryz.underlying23 rfl (by kernel_rfl) (hK _ w1 (ExtD.refl _) rfl)
     rw [Nat.zero_add, (HB0.out.ext hx.ext).cell]
     show ([.int .i64 x.st.tick, .int .i64 x.st.clock, .int .i64 x.st.site, .int .i64 x.st.seq] ++ [.int .i64 x.kind, .int .i64 x.box.lo.x, .int .i64 x.box.lo.y, .int .i64 x.box.lo.z, .int .i64 x.box.hi.x, .int .i64 x.box.hi.y, .int .i64 x.box.hi.z, .int .i64 x.at_.x, .int .i64 x.at_.y, .int .i64 x.at_.z, .int .i64 x.turn, .int .i64 x.cell, .int .i64 x.size])[j]? = some v
     rw [List.getElem?_append_left (List.getElem?_eq_some_iff.1 hv).1]
     exact hv
   | 2, ho =>
     obtain rfl := Option.some.inj ho
     refine want_none rfl ?_
     have e3 : b.tmps[3]? = some (.pointer (some ⟨w.heap.size + 1, 0, none⟩)) := hmiss 3 rfl
     exact op_run (by unfold execOp; simp [e3, Act.eval, go_sem]) (hK _ w1 (ExtD.refl _) rfl)
   | 3, ho =>
     obtain rfl := Option.some.inj ho
     refine want_none rfl ?_
     obtain ⟨v7, g7, e7⟩ := hdep 2 rfl
     have g7 : v7 = .pointer (some ⟨w.heap.size + 1, 0, none⟩) := g7
     subst g7
     have e7 := e7 7 rfl
     refine wp_load_mid 23 (.tmp 7) rfl _ 0 (eval_of e7) [.int .i64 y.st.tick, .int .i64 y.st.clock, .int .i64 y.st.site, .int .i64 y.st.seq] _ (fun j v hv => ?_) Tryz.underlying23 rfl (by kernel_rfl) (hK _ w1 (ExtD.refl _) rfl)
     rw [Nat.zero_add, (HB1.out.ext hx.ext).cell]
     show ([.int .i64 y.st.tick, .int .i64 y.st.clock, .int .i64 y.st.site, .int .i64 y.st.seq] ++ [.int .i64 y.kind, .int .i64 y.box.lo.x, .int .i64 y.box.lo.y, .int .i64 y.box.lo.z, .int .i64 y.box.hi.x, .int .i64 y.box.hi.y, .int .i64 y.box.hi.z, .int .i64 y.at_.x, .int .i64 y.at_.y, .int .i64 y.at_.z, .int .i64 y.turn, .int .i64 y.cell, .int .i64 y.size])[j]? = some v
     rw [List.getElem?_append_left (List.getElem?_eq_some_iff.1 hv).1]
     exact hv
   | 4, ho =>
     obtain rfl := Option.some.inj ho
     refine want_none rfl ?_
     obtain ⟨v6, g6, e6⟩ := hdep 1 rfl
     have g6 : v6 = .agg #[.int .i64 x.st.tick, .int .i64 x.st.clock, .int .i64 x.st.site, .int .i64 x.st.seq] := g6
     subst g6
     have e6 := e6 6 rfl
     obtain ⟨v8, g8, e8⟩ := hdep 3 rfl
     have g8 : v8 = .agg #[.int .i64 y.st.tick, .int .i64 y.st.clock, .int .i64 y.st.site, .int .i64 y.st.seq] := g8
     subst g8
     have e8 := e8 8 rfl
     have hc := (stampCompare_any x.st y.st w1).mono (R' := fun e w' => ∃ v, e = .returned v ∧ ExtD w1 w' ∧ v = .int .i64 (cmpS x.st y.st)) (fun e w' h => ⟨_, h.1, h.2, rfl⟩)
     exact op_callD rfl (by first | (simp [eval_of e6, eval_of e8]; done) | (simp [eval_of e6, eval_of e8]; rfl)) (fun _ _ => by kernel_rfl) hc (fun v w' h g => hK v w' h g)
   | 5, ho =>
     obtain rfl := Option.some.inj ho
     refine want_none rfl ?_
     have e2 : b.tmps[2]? = some (.pointer (some ⟨w.heap.size, 0, none⟩)) := hmiss 2 rfl
     exact op_loadrow rfl (eval_of e2) (HB0.out.ext hx.ext) _ Tryz.underlying29 rfl (by kernel_rfl) (hK _ w1 (ExtD.refl _) rfl)
   | 6, ho =>
     obtain rfl := Option.some.inj ho
     refine want_none rfl ?_
     obtain ⟨v10, g10, e10⟩ := hdep 5 rfl
     have g10 : v10 = .agg #[.int .i64 x.st.tick, .int .i64 x.st.clock, .int .i64 x.st.site, .int .i64 x.st.seq, .int .i64 x.kind, .int .i64 x.box.lo.x, .int .i64 x.box.lo.y, .int .i64 x.box.lo.z, .int .i64 x.box.hi.x, .int .i64 x.box.hi.y, .int .i64 x.box.hi.z, .int .i64 x.at_.x, .int .i64 x.at_.y, .int .i64 x.at_.z, .int .i64 x.turn, .int .i64 x.cell, .int .i64 x.size] := g10
     subst g10
     have e10 := e10 10 rfl
     have hc := (numbers_any x w1).mono (R' := fun e w' => ∃ v, e = .returned v ∧ ExtD w1 w' ∧ ∃ A' c', v = .slice A' 17 c' ∧ Sv w' w'.heap.size 1 A' c' (rowsI (numsE x))) (fun e w' ⟨A', c', h1, h2, h3⟩ => ⟨_, h1, h3, A', c', rfl, h2⟩)
     exact op_callD rfl (by first | (simp [eval_of e10]; done) | (simp [eval_of e10]; rfl)) (fun _ _ => by kernel_rfl) hc (fun v w' h g => hK v w' h g)
   | 7, ho =>
     obtain rfl := Option.some.inj ho
     refine want_none rfl ?_
     have e3 : b.tmps[3]? = some (.pointer (some ⟨w.heap.size + 1, 0, none⟩)) := hmiss 3 rfl
     exact op_loadrow rfl (eval_of e3) (HB1.out.ext hx.ext) _ Tryz.underlying29 rfl (by kernel_rfl) (hK _ w1 (ExtD.refl _) rfl)
   | 8, ho =>
     obtain rfl := Option.some.inj ho
     refine want_none rfl ?_
     obtain ⟨v12, g12, e12⟩ := hdep 7 rfl
     have g12 : v12 = .agg #[.int .i64 y.st.tick, .int .i64 y.st.clock, .int .i64 y.st.site, .int .i64 y.st.seq, .int .i64 y.kind, .int .i64 y.box.lo.x, .int .i64 y.box.lo.y, .int .i64 y.box.lo.z, .int .i64 y.box.hi.x, .int .i64 y.box.hi.y, .int .i64 y.box.hi.z, .int .i64 y.at_.x, .int .i64 y.at_.y, .int .i64 y.at_.z, .int .i64 y.turn, .int .i64 y.cell, .int .i64 y.size] := g12
     subst g12
     have e12 := e12 12 rfl
     have hc := (numbers_any y w1).mono (R' := fun e w' => ∃ v, e = .returned v ∧ ExtD w1 w' ∧ ∃ A' c', v = .slice A' 17 c' ∧ Sv w' w'.heap.size 1 A' c' (rowsI (numsE y))) (fun e w' ⟨A', c', h1, h2, h3⟩ => ⟨_, h1, h3, A', c', rfl, h2⟩)
     exact op_callD rfl (by first | (simp [eval_of e12]; done) | (simp [eval_of e12]; rfl)) (fun _ _ => by kernel_rfl) hc (fun v w' h g => hK v w' h g)
   | 9, ho =>
     obtain rfl := Option.some.inj ho
     refine want_none rfl ?_
     obtain ⟨v11, ⟨A1, c1, k1, s1⟩, e11⟩ := hdep 6 rfl
     have e11 := e11 11 rfl
     subst k1
     obtain ⟨v13, ⟨A2, c2, k2, s2⟩, e13⟩ := hdep 8 rfl
     have e13 := e13 13 rfl
     subst k2
     have hc := (CompareI_any A1 c1 (numsE x) A2 c2 (numsE y) 17 w1.heap.size w1 s1 s2 (Nat.le_refl _) rfl rfl).mono (R' := fun e w' => ∃ v, e = .returned v ∧ ExtD w1 w' ∧ v = .int .i64 (cmpV (numsE x) (numsE y))) (fun e w' h => ⟨_, h.1, (ExtD.refl _).same h.2, rfl⟩)
     exact op_callD rfl (by first | (simp [eval_of e11, eval_of e13]; done) | (simp [eval_of e11, eval_of e13]; rfl)) (fun _ _ => by kernel_rfl) hc (fun v w' h g => hK v w' h g)
   | 10, ho =>
     obtain rfl := Option.some.inj ho
     refine want_none rfl ?_
     obtain ⟨v9, g9, e9⟩ := hdep 4 rfl
     have g9 : v9 = .int .i64 (cmpS x.st y.st) := g9
     subst g9
     have e9 := e9 9 rfl
     obtain ⟨v14, g14, e14⟩ := hdep 9 rfl
     have g14 : v14 = .int .i64 (cmpV (numsE x) (numsE y)) := g14
     subst g14
     have e14 := e14 14 rfl
     exact op_run (v := .slice (some ⟨w1.heap.size, 0, none⟩) 2 2) (w2 := w1.alloc (.cells (([cmpS x.st y.st, cmpV (numsE x) (numsE y)] : List Int).map (Value.int .i64)).toArray 3)) (by unfold execOp; simp [e9, e14, Act.eval, go_sem]) (hK _ _ ((ExtD.refl w1).alloc _) ⟨_, rfl, sv_new w1 [cmpS x.st y.st, cmpV (numsE x) (numsE y)] (by simp)⟩)
   | 11, ho =>
     obtain rfl := Option.some.inj ho
     refine want_none rfl ?_
     obtain ⟨v15, ⟨b1, k1, k2⟩, e15⟩ := hdep 10 rfl
     have e15 := e15 15 rfl
     subst k1
     have hc := (Or_any (some ⟨b1, 0, none⟩) 2 [cmpS x.st y.st, cmpV (numsE x) (numsE y)] w1.heap.size w1 k2 (Nat.le_refl _)).mono (R' := fun e w' => ∃ v, e = .returned v ∧ ExtD w1 w' ∧ v = .int .i64 (cmpE x y)) (fun e w' h => ⟨_, h.1, (ExtD.refl _).same h.2, rfl⟩)
     exact op_callD rfl (by first | (simp [eval_of e15]; done) | (simp [eval_of e15]; rfl)) (fun _ _ => by kernel_rfl) hc (fun v w' h g => hK v w' h g)
   | 12, ho =>
     obtain rfl := Option.some.inj ho
     refine want_none rfl ?_
     obtain ⟨v16, g16, e16⟩ := hdep 11 rfl
     have g16 : v16 = .int .i64 (cmpE x y) := g16
     subst g16
     have e16 := e16 16 rfl
     exact op_assign rfl (eval_of e16) (hK _ w1 (ExtD.refl _) rfl)
   | i + 13, ho => cases ho
 · intro V W2 hx hg
   have q0 : V 12 = .int .i64 (cmpE x y) := hg 12 (by decide)
   simp only [List.length_cons, List.length_nil, fillAllN, dstOf, Act.put, List.getElem?_toArray, List.getElem?_cons_zero, List.getElem?_cons_succ, Option.bind_some, List.setIfInBounds_toArray, List.set_cons_zero, List.set_cons_succ, q0]
   clear hg q0
   go_wp2
   go_ret
   exact ⟨ret_int (cmpE_eq x y), HX0.out.trans hx⟩
end Go.Proofs.YtlinhgannajfpaaGreatDoor

/- slices.SortFunc at structs, over a row of one's own: it then holds what core's mergeSort gives. For every program. -/
namespace Go.Proofs.YtlinhgannajfpaaGreatDoor
open Go Go.RowKit Go.Sort

section
variable {α : Type} [Inhabited α] {enc : α → List Value} {k : Nat}
theorem flatK_list (hk : ∀ x, (enc x).length = k) (d : List α) : (flatK enc k d.toArray).toList = (d.map enc).flatten := by
 have hl : ∀ x, x ∈ d.map enc → x.length = k := fun x hx => by obtain ⟨y, _, rfl⟩ := List.mem_map.1 hx; exact hk y
 apply List.ext_getElem?
 intro t
 by_cases ht : t < d.length * k
 · have k0 : 0 < k := by rcases Nat.eq_zero_or_pos k with h | h; · subst h; simp at ht
                         · exact h
   have hi : t / k < d.length := Nat.div_lt_of_lt_mul (by rw [Nat.mul_comm]; exact ht)
   have hj : t % k < k := Nat.mod_lt _ k0
   have h1 := flatten_at (d.map enc) hl (t / k) (enc d[t / k]) (by simp [hi]) (t % k) ((enc d[t / k])[t % k]'(by rw [hk]; exact hj)) (List.getElem?_eq_getElem _)
   rw [Nat.mul_comm, Nat.div_add_mod] at h1
   rw [h1]
   have h2 : (flatK enc k d.toArray)[t]! = (enc d.toArray[t / k]!)[t % k]! := get_flatK _ _ _ t (by simpa using ht)
   rw [getElem!_pos _ t (by simpa using ht)] at h2
   rw [Array.getElem?_toList, Array.getElem?_eq_getElem (by simpa using ht), h2]
   congr 1
   rw [getElem!_pos d.toArray _ (by simpa using hi)]
   simp only [List.getElem_toArray]
   rw [getElem!_pos _ _ (by rw [hk]; exact hj)]
 · rw [List.getElem?_eq_none (by simp; omega), List.getElem?_eq_none (by rw [flatten_length _ hl]; simp; omega)]
theorem take_put (cur F : Array Value) (h : F.size ≤ cur.size) : (putCells id 0 F cur).toList.take F.size = F.toList := by
 apply List.ext_getElem?
 intro t
 rw [List.getElem?_take]
 by_cases ht : t < F.size
 · rw [if_pos ht]
   have : (putCells id 0 F cur)[t]? = some F[t] := by
    unfold putCells
    rw [Array.getElem?_mapIdx, Array.getElem?_eq_getElem (by omega)]
    simp [ht]
   simpa [ht] using this
 · rw [if_neg ht, List.getElem?_eq_none (by simpa using Nat.le_of_not_lt ht)]
theorem holds_of_own {w : World} {base n c g : Nat} {e : TypeId} {d : List α} (hk : ∀ x, (enc x).length = k) (h : w.ownsRow base e k (.slice (some ⟨g, 0, none⟩) n c) n (d.map enc).flatten) (hn : d.length = n) : HoldsK enc k w g 0 d.toArray := by
 obtain ⟨cur, hb, hg, hc, hm, hl, ht⟩ := own_cur h
 have hl2 : ∀ x, x ∈ d.map enc → x.length = k := fun x hx => by obtain ⟨y, _, rfl⟩ := List.mem_map.1 hx; exact hk y
 intro j hj
 have hj2 : j < n * k := by rw [size_flatK] at hj; simpa [hn] using hj
 refine ⟨?_, frozen_of_row w g _ cur.toArray e hg⟩
 rw [Nat.zero_add, cell_of_row w g _ cur.toArray e (0, 0) hg]
 have h1 : (flatK enc k d.toArray).toList[j]? = some (flatK enc k d.toArray)[j] := by simp
 rw [flatK_list hk, ← ht, List.getElem?_take, if_pos hj2] at h1
 rw [getElem!_pos _ j hj]
 simpa using h1
theorem own_put {w : World} {base n c g m : Nat} {e : TypeId} {d d' : List α} {os : Array Obj} (hk : ∀ x, (enc x).length = k) (h : w.ownsRow base e k (.slice (some ⟨g, 0, none⟩) n c) n (d.map enc).flatten) (_hn : d.length = n) (hd : d'.length = n) :
    (sortWorldK enc k w g 0 m d'.toArray os).ownsRow base e k (.slice (some ⟨g, 0, none⟩) n c) n (d'.map enc).flatten ∧ w.grownBy (sortWorldK enc k w g 0 m d'.toArray os) (some g) := by
 obtain ⟨cur, hb, hg, hc, hm, hl, ht⟩ := own_cur h
 have hgl := (Array.getElem?_eq_some_iff.1 hg).1
 have hnk : n * k ≤ cur.length := by rw [hl]; exact Nat.mul_le_mul_right _ hc
 have hbl : (sortWorldK enc k w g 0 m d'.toArray os).heap[g]? = some (.cells (putCells id 0 (flatK enc k d'.toArray) cur.toArray) e (0, 0)) := by
  unfold sortWorldK grow putRowK putRow mapBlock Go.Sort.ahead
  simp only [Array.getElem?_append, Array.size_modify, hgl, if_true, Array.getElem?_modify]
  rw [hg]
  rfl
 have hsz : (putCells id 0 (flatK enc k d'.toArray) cur.toArray).size = cur.length := by simp [putCells]
 refine ⟨own_of_cur (cur := (putCells id 0 (flatK enc k d'.toArray) cur.toArray).toList) hb (by simpa using hbl) hc hm (by rw [Array.length_toList, hsz, hl]) ?_, ?_⟩
 · have h1 := take_put cur.toArray (flatK enc k d'.toArray) (by simp [hd]; exact hnk)
   rw [size_flatK] at h1
   simp only [List.size_toArray, hd] at h1
   rw [h1, flatK_list hk]
 · refine ⟨rfl, rfl, rfl, ?_, fun i hi hne => ?_⟩
   · simp [sortWorldK, grow, putRowK, putRow, mapBlock, Go.Sort.ahead]
   · unfold sortWorldK grow putRowK putRow mapBlock Go.Sort.ahead
     simp only [Array.getElem?_append, Array.size_modify, hi, if_true, Array.getElem?_modify]
     rw [if_neg (by rintro rfl; exact hne rfl)]
end
def nearG (w : World) (n : Nat) (os : Array Obj) : World := grow (w.drewN n) os
theorem nearG_old (w : World) (n : Nat) (os : Array Obj) (b o : Nat) (h : b < w.heap.size) : (nearG w n os).cell? ⟨b, o, none⟩ = w.cell? ⟨b, o, none⟩ := by
 simp only [World.cell?, nearG, grow, World.drewN, Array.getElem?_append, h, if_true]
theorem nearG_drew (w : World) : w.drew = nearG w 1 #[] := by unfold nearG; rw [grow_empty]; rfl
theorem wp_region_nearG_tail {P : Program} {id : Nat} {Q : Exit → Act → World → Prop} {a : Act} {w : World} {l : List Oper} (n : Nat) (hm : P.follows .mixedOrders = true) (hB : Region.lexTailB .any l.toArray n = true)
    (h : wpQuiet P l.toArray (fun w' => ∃ p : Near, w' = nearG w p.n p.os) (fun a' => ∀ w', (∃ p : Near, w' = nearG w p.n p.os) → wpList P l.toArray Q (l.drop n) a' w') (l.take n) a) : (Code.region id l.toArray true).wp P Q a w :=
 wp_region_head n hm hB ⟨⟨1, #[]⟩, nearG_drew w⟩ h
theorem nearG_same {P : Program} {f : FuncId} {args : Array Value} {w : World} {n : Nat} {os : Array Obj} {v : Value}
    (h : Calls P f args (nearG w n os) fun e w' => e = .returned v ∧ nearG w n os = w') : Calls P f args (nearG w n os) fun e w'' => e = .returned v ∧ ∃ p : Near, w'' = nearG w p.n p.os :=
 h.mono fun _ _ ⟨he, hx⟩ => ⟨he, ⟨⟨n, os⟩, hx.symm⟩⟩
theorem nearG_grow (w : World) (n : Nat) (os os' : Array Obj) : grow (nearG w n os) os' = grow (w.drewN n) (os ++ os') := by unfold nearG; rw [grow_grow]
theorem nearG_alloc (w : World) (n : Nat) (os : Array Obj) (o : Obj) : ∃ q os', (nearG w n os).alloc o = grow (w.drewN q) os' := ⟨n, os ++ #[o], by rw [alloc_eq_grow, nearG_grow]⟩
theorem grown_alloc2 (w : World) (a b : Obj) (q : Nat) (os : Array Obj) : ∃ q' os', grow (((w.alloc a).alloc b).drewN q) os = grow (w.drewN q') os' := by
 refine ⟨q, #[a] ++ #[b] ++ os, ?_⟩
 rw [alloc_eq_grow, alloc_eq_grow, grow_grow]
 show grow (grow (w.drewN q) _) os = _
 rw [grow_grow]
end Go.Proofs.YtlinhgannajfpaaGreatDoor

namespace Go.Proofs.YtlinhgannajfpaaGreatDoor
open Go.Shelf
def Tryz.sortEd_ren : Go.Shelf.Ren := ⟨fun | 6 => 69 | 15 => 104 | 14 => 103 | 28 => 139 | 29 => 140 | 20 => 131 | 21 => 132 | 22 => 133 | 23 => 134 | 24 => 135 | 25 => 136 | 26 => 137 | 27 => 138 | 46 => 145 | 47 => 146 | 48 => 147 | 49 => 148 | 50 => 149 | 57 => 155 | n => n, fun | 22 => 35 | 24 => 29 | 25 => 38 | 3 => 3 | 39 => 109 | 0 => 0 | 53 => 112 | 55 => 115 | 4 => 4 | 46 => 139 | 45 => 138 | 50 => 132 | 5 => 5 | 9 => 9 | 66 => 149 | 70 => 153 | 76 => 162 | 77 => 69 | n => n, fun | n => n⟩
theorem Tryz.sortEd : Go.Proofs.SlLaysF0.n6 Tryz.prog Tryz.sortEd_ren := {
 mixed := by kernel_rfl
 f6 := ⟨Tryz.f69.name, by decide, Tryz.func69.trans (congrArg some (by kernel_rfl))⟩
 f14 := ⟨Tryz.f103.name, by decide, Tryz.func103.trans (congrArg some (by kernel_rfl))⟩
 f15 := Tryz.func104.trans (congrArg some (by kernel_rfl))
 f20 := ⟨Tryz.f131.name, by decide, Tryz.func131.trans (congrArg some (by kernel_rfl))⟩
 f21 := ⟨Tryz.f132.name, by decide, Tryz.func132.trans (congrArg some (by kernel_rfl))⟩
 f22 := ⟨Tryz.f133.name, by decide, Tryz.func133.trans (congrArg some (by kernel_rfl))⟩
 f23 := ⟨Tryz.f134.name, by decide, Tryz.func134.trans (congrArg some (by kernel_rfl))⟩
 f24 := ⟨Tryz.f135.name, by decide, Tryz.func135.trans (congrArg some (by kernel_rfl))⟩
 f25 := ⟨Tryz.f136.name, by decide, Tryz.func136.trans (congrArg some (by kernel_rfl))⟩
 f26 := ⟨Tryz.f137.name, by decide, Tryz.func137.trans (congrArg some (by kernel_rfl))⟩
 f27 := ⟨Tryz.f138.name, by decide, Tryz.func138.trans (congrArg some (by kernel_rfl))⟩
 f28 := Tryz.func139.trans (congrArg some (by kernel_rfl))
 f29 := Tryz.func140.trans (congrArg some (by kernel_rfl))
 f46 := ⟨Tryz.f145.name, by decide, Tryz.func145.trans (congrArg some (by kernel_rfl))⟩
 f47 := Tryz.func146.trans (congrArg some (by kernel_rfl))
 f48 := Tryz.func147.trans (congrArg some (by kernel_rfl))
 f49 := ⟨Tryz.f148.name, by decide, Tryz.func148.trans (congrArg some (by kernel_rfl))⟩
 f50 := ⟨Tryz.f149.name, by decide, Tryz.func149.trans (congrArg some (by kernel_rfl))⟩
 f57 := ⟨Tryz.f155.name, by decide, Tryz.func155.trans (congrArg some (by kernel_rfl))⟩
 t0 := Tryz.underlying0
 a0 := Tryz.isAgg0
 z0 := Tryz.sizeOf0
 v0 := Tryz.zeroValue0
 t3 := Tryz.underlying3
 a3 := Tryz.isAgg3
 z3 := Tryz.sizeOf3
 v3 := Tryz.zeroValue3
 t4 := Tryz.underlying4
 a4 := Tryz.isAgg4
 z4 := Tryz.sizeOf4
 v4 := Tryz.zeroValue4
 t5 := Tryz.underlying5
 a5 := Tryz.isAgg5
 z5 := Tryz.sizeOf5
 v5 := Tryz.zeroValue5
 t9 := Tryz.underlying9
 a9 := Tryz.isAgg9
 z9 := Tryz.sizeOf9
 v9 := Tryz.zeroValue9
 t22 := Tryz.underlying35
 a22 := Tryz.isAgg35
 z22 := Tryz.sizeOf35
 v22 := Tryz.zeroValue35
 t25 := Tryz.underlying38
 a25 := Tryz.isAgg38
 z25 := Tryz.sizeOf38
 v25 := Tryz.zeroValue38
 t39 := Tryz.underlying109
 a39 := Tryz.isAgg109
 z39 := Tryz.sizeOf109
 v39 := Tryz.zeroValue109
 t45 := Tryz.underlying138
 a45 := Tryz.isAgg138
 z45 := Tryz.sizeOf138
 v45 := Tryz.zeroValue138
 t46 := Tryz.underlying139
 a46 := Tryz.isAgg139
 z46 := Tryz.sizeOf139
 v46 := Tryz.zeroValue139
 t50 := Tryz.underlying132
 a50 := Tryz.isAgg132
 z50 := Tryz.sizeOf132
 v50 := Tryz.zeroValue132
 t53 := Tryz.underlying112
 a53 := Tryz.isAgg112
 z53 := Tryz.sizeOf112
 v53 := Tryz.zeroValue112
 t55 := Tryz.underlying115
 a55 := Tryz.isAgg115
 z55 := Tryz.sizeOf115
 v55 := Tryz.zeroValue115
 t66 := Tryz.underlying149
 a66 := Tryz.isAgg149
 z66 := Tryz.sizeOf149
 v66 := Tryz.zeroValue149
 t70 := Tryz.underlying153
 a70 := Tryz.isAgg153
 z70 := Tryz.sizeOf153
 v70 := Tryz.zeroValue153
 t76 := Tryz.underlying162
 a76 := Tryz.isAgg162
 z76 := Tryz.sizeOf162
 v76 := Tryz.zeroValue162
 t77 := Tryz.underlying69
 a77 := Tryz.isAgg69
 z77 := Tryz.sizeOf69
 v77 := Tryz.zeroValue69 }
def Tryz.cloneEd_ren : Go.Shelf.Ren := ⟨fun | 41 => 68 | n => n, fun | 22 => 35 | 23 => 29 | 4 => 4 | n => n, fun | n => n⟩
theorem Tryz.cloneEd : Go.Proofs.SlLaysE0.n41 Tryz.prog Tryz.cloneEd_ren := {
 mixed := by kernel_rfl
 f41 := ⟨Tryz.f68.name, by decide, Tryz.func68.trans (congrArg some (by kernel_rfl))⟩
 t4 := Tryz.underlying4
 a4 := Tryz.isAgg4
 z4 := Tryz.sizeOf4
 v4 := Tryz.zeroValue4
 t22 := Tryz.underlying35
 a22 := Tryz.isAgg35
 z22 := Tryz.sizeOf35
 v22 := Tryz.zeroValue35 }
end Go.Proofs.YtlinhgannajfpaaGreatDoor

/- Sorting edits and names: history.compare, slices.SortFunc, slices.Clone, edit.Sorted. -/
namespace Go.Proofs.YtlinhgannajfpaaGreatDoor
open Go Go.RowKit Go.Sort

section
variable {α : Type} {r : α → α → Bool}
theorem Ord.ntr (o : Ord r) {x y z : α} (h : r x y = false) (k : r y z = false) : r x z = false := by
 cases g : r x z
 · rfl
 · exfalso
   cases e : r y x
   · have := o.tot h e; subst this; rw [g] at k; cases k
   · have := o.tr e g; rw [this] at k; cases k
theorem Ord.swo (o : Ord r) : SWO r where
 irrefl x := o.irr x
 trans _x _y _z h k := o.tr h k
 ntrans _x _y _z h k := o.ntr h k
def srtR (r : α → α → Bool) (l : List α) : List α := l.mergeSort fun x y => !r y x
theorem srtR_length (l : List α) : (srtR r l).length = l.length := List.length_mergeSort ..
theorem srtR_perm (l : List α) : (srtR r l).Perm l := List.mergeSort_perm ..
theorem srtR_mem (l : List α) (q : α) : q ∈ srtR r l ↔ q ∈ l := (srtR_perm l).mem_iff
theorem srtR_le (o : Ord r) (l : List α) : LeR r (srtR r l) := by
 have h := List.pairwise_mergeSort (le := fun x y => !r y x) (fun a b c h k => by
  simp only [Bool.not_eq_true'] at *
  exact o.ntr k h) (fun a b => by
  cases h : r b a
  · simp
  · simp [o.asym h]) l
 exact h.imp fun h => by simpa using h
end
theorem ExtD.grow {w w' : World} (h : ExtD w w') : ∃ q os', w' = grow (w.drewN q) os' := by
 obtain ⟨p, hp⟩ := h.nearD
 exact ⟨p.n, p.os, hp⟩
instance : Inhabited Nm := ⟨⟨0, 0⟩⟩
theorem ltNm (x y : Nm) : ltOf (fun x y : Nm => cmpV [x.site, x.seq] [y.site, y.seq]) x y = befN x y := by
 unfold ltOf
 rw [Bool.eq_iff_iff, decide_eq_true_eq]
 exact cmpV_lt
instance : Inhabited Ed := ⟨⟨⟨0, 0, 0, 0⟩, 0, ⟨⟨0, 0, 0⟩, ⟨0, 0, 0⟩⟩, ⟨0, 0, 0⟩, 0, 0, 0⟩⟩
theorem ltEd (x y : Ed) : ltOf (fun x y : Ed => cmpV (numsE x) (numsE y)) x y = befE x y := by
 unfold ltOf
 rw [Bool.eq_iff_iff, decide_eq_true_eq]
 exact cmpV_lt
set_option maxHeartbeats 1000000 in
theorem SortEd_any (l : List Ed) (v : Value) (base : Nat) (w : World) (h : w.ownsRow base 29 17 v l.length (rowsE l).flatten) (hb : l.length ≤ 1034834473200) :
    Calls Tryz.prog 69 #[v, .func (.func 19) #[] #[]] w fun e w' => e = .returned (.tuple #[]) ∧ w'.ownsRow base 29 17 v l.length (rowsE (srtR befE l)).flatten ∧ w.grownBy w' v.ownBlock := by
 have hlt : ltOf (fun x y : Ed => cmpV (numsE x) (numsE y)) = befE := by funext x y; exact ltEd x y
 rcases h.2 with ⟨rfl, h0⟩ | ⟨g, cap, cur, rfl, hg, hgg, _⟩
 · have hl : l = [] := List.eq_nil_of_length_eq_zero h0
   subst hl
   have hcon := AnyF.slices_SortFunc_none { Tryz.sortEd with } none 0 (.func (.func 19) #[] #[]) w
   exact hcon.mono fun e w' ⟨he, hw⟩ => ⟨he, by subst hw; simpa [srtR] using h, by subst hw; exact grown_refl _ _⟩
 · have eg : ∀ args w, (callFunc 19 args).run Tryz.prog w = .ok (.enter 19 args) w := fun _ _ => by kernel_rfl
   have hcmp : CmpLays Tryz.prog 19 #[] Ed.cells 17 (fun x y : Ed => cmpV (numsE x) (numsE y)) g 0 l.toArray.size w := fun m os dk hs x y => (CompareEd_any x y _).mono fun e w' hh => ⟨hh.1, hh.2.grow⟩
   have hsz : l.toArray.size < 4611686018427387904 := by simp; omega
   have hcon := AnyQ.slices_SortFunc_total Tryz.sortEd 17 Tryz.isAgg29 Tryz.sizeOf29 Ed.cells (fun _ => rfl) (fun x => x.one) (fun x y : Ed => cmpV (numsE x) (numsE y)) (by rw [hlt]; exact ordE.swo) 19 #[] g 0 cap l.toArray w eg hcmp (holds_of_own (enc := Ed.cells) (fun _ => rfl) h rfl) ((Array.getElem?_eq_some_iff.1 hgg).1) hsz (fun x y h1 h2 => by
    rw [hlt] at h1 h2
    exact ordE.tot h1 h2)
   refine hcon.mono fun e w' ⟨he, n, os, hw⟩ => ?_
   have hsl : (l.toArray.toList.mergeSort fun x y => !(ltOf (fun x y : Ed => cmpV (numsE x) (numsE y))) y x) = srtR befE l := by
    rw [hlt]; rfl
   rw [hsl] at hw
   obtain ⟨r1, r2⟩ := own_put (enc := Ed.cells) (m := n) (os := os) (d' := srtR befE l) (fun _ => rfl) h rfl (srtR_length l)
   rw [hw]
   exact ⟨he, r1, r2⟩
def RetOE (l : List Ed) (w : World) (en : Ending) (w' : World) : Prop :=
 ∃ v, en = .returned v ∧ w'.ownsRow w.heap.size 29 17 v l.length (rowsE l).flatten ∧ Ext w w'
set_option maxHeartbeats 1000000 in
theorem CloneEd_any (A : Option Addr) (c : Nat) (l : List Ed) (w : World) (hs : Sv w w.heap.size 17 A c (rowsE l)) (hb : l.length ≤ 1034834473200) :
    Calls Tryz.prog 68 #[.slice A l.length c] w (RetOE l w) := by
 have qT : ∀ (w : World) (a : Option Addr) (n c n' c' : Nat), (binOp .eql 35 (.slice a n c) (.slice none n' c')).run Tryz.prog w = .ok (.bool a.isNone) w := fun w a n c n' c' => Lib.run_eql_slice_nil w _ _ a n c n' c' Tryz.underlying35
 cases A with
 | none =>
   have hl : l = [] := by
    apply List.eq_nil_of_length_eq_zero
    rcases Nat.eq_zero_or_pos l.length with h | h
    · exact h
    · obtain ⟨_, _, h, _⟩ := hs.mem (by rw [rowsE_length]; exact h)
      cases h
   subst hl
   clear hs
   go_enter Tryz.func68, Tryz.ntmps68
   go_wp2
   go_ret
   exact ⟨_, rfl, World.ownsRow_nil _ _ _ _, Ext.refl _⟩
 | some ad =>
   have hx0 : Ext w (w.alloc (.cells #[] 29)) := (Ext.refl w).alloc _
   have HS := Lib.hid (hs.ext hx0)
   have HX := Lib.hid hx0
   obtain ⟨i0, hi, hz0, hz1, hz2⟩ := info_parts infoEd
   have HI := Lib.hid hi; have HZ := Lib.hid hz0; have HZ1 := Lib.hid hz1; have HZ2 := Lib.hid hz2; clear hi hz0 hz1 hz2 hs hx0
   have HOZ := Lib.hid (show (w.alloc (.cells #[] 29)).ownsRow w.heap.size 29 17 (.slice (some ⟨w.heap.size, 0, none⟩) 0 0) 0 [] from own_of_cur (cur := []) (Nat.le_refl _) (by simpa using heap_alloc_new w (.cells #[] 29)) (Nat.le_refl _) (by decide) (by simp) (by simp))
   go_enter Tryz.func68, Tryz.ntmps68
   go_upto_region 3 with fail
   go_wp2_with (at_builtin; refine wpList_append_sv _ rfl (.tmp 5) (.tmp 6) 35 rfl w.heap.size 29 i0 (.agg #[.int .i64 0, .int .i64 0, .int .i64 0, .int .i64 0, .int .i64 0, .int .i64 0, .int .i64 0, .int .i64 0, .int .i64 0, .int .i64 0, .int .i64 0, .int .i64 0, .int .i64 0, .int .i64 0, .int .i64 0, .int .i64 0, .int .i64 0]) 17 136 Tryz.underlying35 HI.out HZ.out HZ1.out HZ2.out rfl (by decide) _ 0 [] rfl HOZ.out (w.alloc (.cells #[] 29)).heap.size (some ad) l.length c (rowsE l) rfl HS.out (by rw [rowsE_length]) (by unfold maxLen; omega) (by omega) HX.out.size ?_)
   intro v2 w2 g1 g2 _
   have hx2 : Ext w w2 := HX.out.grown g2 (own_low HOZ.out)
   have HG := Lib.hid (show w2.ownsRow w.heap.size 29 17 v2 l.length (rowsE l).flatten by simpa using g1)
   obtain ⟨A1, c1, rfl, _⟩ := own_form HG.out
   have HX2 := Lib.hid hx2
   clear g1 g2 hx2
   go_wp2
   go_ret
   exact ⟨_, rfl, HG.out, HX2.out⟩
def RetSE (l : List Ed) (w : World) (en : Ending) (w' : World) : Prop :=
 ∃ m v, IsOrd l m ∧ en = .returned v ∧ w'.ownsRow w.heap.size 29 17 v m.length (rowsE m).flatten ∧ Ext w w'
set_option maxHeartbeats 1000000 in
theorem SortedEd_any (A : Option Addr) (c : Nat) (l : List Ed) (w : World) (hs : Sv w w.heap.size 17 A c (rowsE l)) (hb : l.length ≤ 1034834473200) :
    Calls Tryz.prog 22 #[.slice A l.length c] w (RetSE l w) := by
 have HC := Lib.hid (CloneEd_any A c l w hs hb)
 clear hs
 go_enter Tryz.func22, Tryz.ntmps22
 go_upto_region 2 with (go_at_call 68; refine HC.out.mono ?_; rintro e w1 ⟨v, rfl, ho, hx⟩)
 have HSO := Lib.hid (SortEd_any l v w.heap.size w1 ho hb)
 have HO := Lib.hid ho; have HX := Lib.hid hx
 clear ho hx
 rcases HO.out.2 with ⟨rfl, h0⟩ | ⟨g, cap, cur, rfl, hg, hgg, _⟩
 · have hl : l = [] := List.eq_nil_of_length_eq_zero h0
   subst hl
   go_upto_region 3 with (go_at_call 69; refine HSO.out.mono ?_; rintro e w2 ⟨rfl, ho2, hg2⟩)
   go_wp2_with (go_at_call 70; refine (CompactEd_none _).mono ?_; rintro e w3 ⟨rfl, rfl⟩)
   go_ret
   exact ⟨[], _, ⟨List.Pairwise.nil, fun q => Iff.rfl⟩, rfl, World.ownsRow_nil _ _ _ _, HX.out.grown hg2 (fun k hk => by simp [Value.ownBlock] at hk)⟩
 · clear hgg
   go_upto_region 3 with (go_at_call 69; refine HSO.out.mono ?_; rintro e w2 ⟨rfl, ho2, hg2⟩)
   have hsl := srtR_length (r := befE) l
   have HCO := Lib.hid (CompactEd_own g cap w.heap.size (srtR befE l) w2 (by rw [hsl]; exact ho2) (srtR_le ordE l) (by omega))
   rw [hsl] at HCO
   have HX2 := Lib.hid (show Ext w w2 from HX.out.grown hg2 (own_low HO.out))
   clear ho2 hg2 hsl
   go_wp2_with (go_at_call 70; refine HCO.out.mono ?_; rintro e w3 ⟨m, h1, h2, rfl, ho3, hg3⟩)
   go_ret
   exact ⟨m, _, ⟨h1, fun q => (h2 q).trans (srtR_mem l q)⟩, rfl, ho3, HX2.out.grown hg3 (fun k hk => by injection hk with hk; omega)⟩
end Go.Proofs.YtlinhgannajfpaaGreatDoor

/- Append onto a full slice of bytes (a slice cut to its length); what the laid variables hold; facts about the sanity's edits. -/
namespace Go.Proofs.YtlinhgannajfpaaGreatDoor
open Go Go.RowKit

set_option maxRecDepth 100000 in
theorem wpList_append_full_B {ops : Array Oper} {rest : List Oper} {o : Oper} {a : Act} {w : World} {Q : Exit → Act → World → Prop} (hgd : o.guard = none) (s x : Operand)
    (ho : o.op = .call { callee := .builtin .append, args := #[s, x], argTypes := #[42, 42] })
    (b0 o0 : Nat) (n : Nat) (xs : List UInt8) (hn : xs.length = n) (hs : a.eval s = .slice (some ⟨b0, o0, none⟩) n n) (hr0 : ∀ j u, (rowsB xs).flatten[j]? = some u → w.cell? ⟨b0, o0 + j, none⟩ = some u)
    (ad : Addr) (c m : Nat) (ys : List UInt8) (hx : a.eval x = .slice (some ad) m c) (hm : ys.length = m) (hr : Sv w w.heap.size 1 (some ad) c (rowsB ys)) (hm0 : 0 < m) (hlen : n + m ≤ 1000000000)
    (h : ∀ A' c' w', Sv w' w'.heap.size 1 A' c' (rowsB (xs ++ ys)) → Ext w w' → wpList Tryz.prog ops Q rest (a.put o.dst (.slice A' (n + m) c')) w') : wpList Tryz.prog ops Q (o :: rest) a w := by
 subst hn hm
 obtain ⟨i0, hi, hz0, hz1, hz2⟩ := info_parts infoB
 have hlx : (rowsB xs).flatten.length = xs.length := by rw [flatten_length _ (rowsB_rwk xs).len, rowsB_length, Nat.mul_one]
 have hly : (rowsB ys).flatten.length = ys.length := by rw [flatten_length _ (rowsB_rwk ys).len, rowsB_length, Nat.mul_one]
 refine wpList_plain hgd fun K hK' => ?_
 have hrun := run_append_grow (P := Tryz.prog) (w := w) 42 o.type 5 i0 _ Tryz.underlying42 hi hz0 ⟨b0, o0, none⟩ xs.length xs.length (rowsB xs).flatten (by rw [hz1, hlx, Nat.mul_one]) (fun j u hj => by
  have h0 := hr0 j u hj
  by_cases h : j = 0
  · subst h; simpa [Addr.add] using h0
  · simpa [Addr.add, h] using h0) ad ys.length c (rowsB ys).flatten (by rw [hz1, hly, Nat.mul_one]) hr.news (by omega) (by omega) (growslice_fits (by omega) (by rw [hz2]; omega))
 have hS : Sv (w.drew.alloc (.cells ((rowsB xs).flatten.toArray ++ (rowsB ys).flatten.toArray ++ Builtin.zeroCells (Value.int .u8 0).cells (grownCap w (xs.length + ys.length) xs.length 5 - (xs.length + ys.length))) 5)) (w.drew.alloc (.cells ((rowsB xs).flatten.toArray ++ (rowsB ys).flatten.toArray ++ Builtin.zeroCells (Value.int .u8 0).cells (grownCap w (xs.length + ys.length) xs.length 5 - (xs.length + ys.length))) 5)).heap.size 1 (some ⟨w.heap.size, 0, none⟩) (grownCap w (xs.length + ys.length) xs.length 5) (rowsB (xs ++ ys)) := by
  refine ⟨by rw [rowsB_length, List.length_append]; exact grownCap_ge _ _ _ _, grownCap_le_maxLen _ _ _ _ (by unfold maxLen; omega), rowsB_rwk _, fun _ => ⟨w.heap.size, 0, rfl, by simp, fun j u hj => ?_⟩⟩
  rw [Nat.zero_add]
  rw [show (⟨w.heap.size, j, none⟩ : Addr) = ⟨w.drew.heap.size, j, none⟩ from rfl, World.cell?_alloc_mark]
  rw [rowsB_append, List.flatten_append] at hj
  rw [← Array.getElem?_toList]
  simp only [Array.toList_append]
  rw [List.getElem?_append_left (by rw [List.length_append]; have := (List.getElem?_eq_some_iff.1 hj).1; rwa [List.length_append] at this)]
  exact hj
 have hx1 : Ext w (w.drew.alloc (.cells ((rowsB xs).flatten.toArray ++ (rowsB ys).flatten.toArray ++ Builtin.zeroCells (Value.int .u8 0).cells (grownCap w (xs.length + ys.length) xs.length 5 - (xs.length + ys.length))) 5)) := (Ext.refl w).drew.alloc _
 have h9 := h _ _ _ hS hx1
 rw [show (rowsB xs).flatten.toArray ++ (rowsB ys).flatten.toArray = ((rowsB xs).flatten ++ (rowsB ys).flatten).toArray by simp] at h9
 unfold Oper.wp
 simp only [execOp, ho, resolve, invoke, builtin]
 simp [hs, hx, hrun, Result.andThen]
 exact hK' _ _ h9
theorem eqArr_run {P : Program} (d : Nat) (t e : TypeId) (n : Nat) (xs : List Value) (w : World) (hu : P.underlying t = some (.array n e)) (he : P.plainKey e = true) (hs : (P.info? e).map (·.size) = some 1) (hl : xs.length = n)
    (hk : ∀ v, v ∈ xs → (Op.equalIn d e v v).run P w = .ok true w) : (Op.equalIn (d + 1) t (.agg xs.toArray) (.agg xs.toArray)).run P w = .ok true w := by
 obtain ⟨inf, hinf, hsz⟩ := Option.map_eq_some_iff.1 hs
 have h1 : (sizeOf e).run P w = .ok 1 w := by simp [sizeOf, typeInfo, go_sem, hinf, hsz, Result.andThen]
 simp only [Op.equalIn, Sem.run_bind, run_underlying hu, Result.andThen_ok, h1]
 rw [Std.Legacy.Range.forIn_eq_forIn_range']
 have hmem : ∀ j, j ∈ List.range' 0 n → j < n := fun j hj => by simpa using hj
 simp only [Std.Legacy.Range.size, Nat.sub_zero, Nat.add_sub_cancel, Nat.div_one]
 generalize List.range' 0 n = js at hmem
 induction js with
 | nil => simp
 | cons j js ih =>
   have hj := hmem j (List.mem_cons_self ..)
   have hp := run_part_plain (P := P) (w := w) he (xs := xs.toArray) (off := j * 1) (v := xs[j]'(by omega)) (by simp [Nat.mul_one])
   have hv := hk (xs[j]'(by omega)) (List.getElem_mem _)
   simp only [List.forIn_cons, Sem.run_bind, hp, hv, Result.andThen_ok, Bool.not_true, Bool.false_eq_true, if_false, Sem.run_pure]
   have := ih (fun i hi => hmem i (List.mem_cons_of_mem _ hi))
   simpa only [Sem.run_bind] using this
theorem eqDg_run (l : List UInt8) (h : l.length = 16) (w : World) : (binOp .eql 45 (.agg (bvs l).toArray) (.agg (bvs l).toArray)).run Tryz.prog w = .ok (.bool true) w := by
 rw [run_eql_struct]
 have h1 := eqArr_run (P := Tryz.prog) 9999 45 5 16 (bvs l) w Tryz.underlying45 (by kernel_rfl) (by kernel_rfl) (by rw [bvs_len]; exact h) (fun v hv => by
  obtain ⟨x, _, rfl⟩ := List.mem_map.1 hv
  have h2 := run_equalIn_int (P := Tryz.prog) (w := w) 9998 5 .u8 .u8 (x.toNat : Int) (x.toNat : Int) Tryz.underlying5
  rw [beq_self_eq_true] at h2
  exact h2)
 have h3 : (Op.equalIn 10000 45 (.agg (bvs l).toArray) (.agg (bvs l).toArray)).run Tryz.prog w = .ok true w := h1
 rw [h3]
 rfl
structure EnvI (w : World) : Prop where
 A : AxesIn w
 R : RowsIn w
 N : NamesIn w
 H : KIn w 2
 K : KIn w 3
theorem EnvI.ext {w w' : World} (h : EnvI w) (hx : Ext w w') : EnvI w' := ⟨h.A.ext hx, h.R.ext hx, h.N.ext hx, h.H.ext hx, h.K.ext hx⟩
def bal18 : List UInt8 := [34, 6, 10, 2, 4, 4, 0, 0, 0, 0, 0, 0, 8, 8, 8, 0, 2, 6]
def und18 : List UInt8 := encE (undoEd 1 1)
theorem enc_bal : encE ballEd = bal18 := by decide +kernel
theorem dec_bal : decE bal18 = (ballEd, 0) := by decide +kernel
theorem dec_nil : decE [] = (zeroE, 5) := by decide +kernel
theorem dec_more : decE (bal18 ++ [0]) = (zeroE, 6) := by decide +kernel
theorem dec_und : decE und18 = (zeroE, 1) := by decide +kernel
theorem len_und : und18.length ≤ 100 := by decide +kernel
theorem fit_bal : FitE ballEd := by
 intro n hn
 have h : (numsE ballEd).all (fun n => decide (-9223372036854775808 ≤ n ∧ n ≤ 9223372036854775807)) = true := by decide +kernel
 have h1 := of_decide_eq_true (List.all_eq_true.1 h n hn)
 unfold fit64
 omega
theorem fit_und : FitE (undoEd 1 1) := by
 intro n hn
 have h : (numsE (undoEd 1 1)).all (fun n => decide (-9223372036854775808 ≤ n ∧ n ≤ 9223372036854775807)) = true := by decide +kernel
 have h1 := of_decide_eq_true (List.all_eq_true.1 h n hn)
 unfold fit64
 omega
theorem chk_1 : checkE ballEd 3 2 = 0 := by decide +kernel
theorem chk_2 : checkE ballEd 2 2 = 1 := by decide +kernel
theorem chk_3 : checkE ballEd 3 1 = 1 := by decide +kernel
theorem chk_4 : checkE ballEd 15 2 = 13 := by decide +kernel
theorem chk_5 : checkE (undoEd 1 0) 3 2 = 0 := by decide +kernel
theorem chk_6 : checkE (undoEd 2 0) 3 2 = 1 := by decide +kernel
theorem chk_7 : checkE (undoEd 1 1) 3 2 = 1 := by decide +kernel
theorem bnd_1 : interB (ballBx ballEd.at_ ballEd.size) (cubeD 3) = ⟨⟨3, 3, 3⟩, ⟨6, 6, 6⟩⟩ := by decide +kernel
theorem frm_1 : formedE ballEd = true := by decide +kernel
theorem frm_2 : formedE (undoEd 1 1) = false := by decide +kernel
theorem cmp_1 : cmpV (numsE ballEd) (numsE (undoEd 1 0)) = -1 := by decide +kernel
theorem knd_1 : kindN 5 = [102, 105, 108, 108] := by decide +kernel
theorem srt_1 {m : List Ed} (h : IsOrd [ballEd, ballEd] m) : m.length = 1 := by
 have h1 := nodup_le (m := [ballEd]) (h.srt.nodup ordE) (fun x hx => by
  have := (h.mem x).1 hx
  simp only [List.mem_cons, List.not_mem_nil, or_false, or_self] at this ⊢
  exact this)
 have h2 := List.length_pos_of_mem ((h.mem ballEd).2 (List.mem_cons_self ..))
 simp only [List.length_cons, List.length_nil] at h1
 omega
end Go.Proofs.YtlinhgannajfpaaGreatDoor
