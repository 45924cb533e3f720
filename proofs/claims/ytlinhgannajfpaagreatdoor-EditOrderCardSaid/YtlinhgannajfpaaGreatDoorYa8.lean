/- YtlinhgannajfpaaGreatDoorUo · YtlinhgannajfpaaGreatDoorUp · YtlinhgannajfpaaGreatDoorUq · YtlinhgannajfpaaGreatDoorUr · YtlinhgannajfpaaGreatDoorAx · YtlinhgannajfpaaGreatDoorCpE · YtlinhgannajfpaaGreatDoorCpN · YtlinhgannajfpaaGreatDoorCe · YtlinhgannajfpaaGreatDoorCf -/
import Derived.Deep.DeepCutAuto
import Derived.Test.YtlinhgannajfpaaGreatDoorYa7
/- edit.Decode. -/
namespace Go.Proofs.YtlinhgannajfpaaGreatDoor
open Go Go.RowKit

section
variable {P : Program} {o : Oper} {b : Act} {w1 : World} {K : Act → World → Prop} {Q : Exit → Act → World → Prop}
theorem op_callF {f : FuncId} {x : Operand} {args : Array Operand} {ts : Array TypeId} {vs caps : Array Value} {G : Value → World → Prop} (ho : o.op = .call { callee := .value x, args := args, argTypes := ts }) (hx : b.eval x = .func (.func f) #[] caps) (ha : args.map b.eval ++ caps = vs) (he : ∀ args w, (callFunc f args).run P w = .ok (.enter f args) w)
    (hc : Calls P f vs w1 fun e w' => ∃ v, e = .returned v ∧ G v w') (h : ∀ v w', G v w' → K (b.put o.dst v) w') : o.wp P b w1 K Q := by
  have hr : (execOp b.eval o).run P w1 = .ok (.enter f vs) w1 := by
    unfold execOp
    simp [ho, resolve, invoke, Deferred.ofValue, hx, ha, he]
  unfold Oper.wp
  rw [hr, Oper.upon_enter]
  refine hc.mono ?_
  rintro e w' ⟨v, rfl, hg⟩
  exact h v w' hg
end
theorem infoE1 : ∃ i z, Tryz.prog.info? 29 = some i ∧ i.zero = some z ∧ z.cells.toList = [.int .i64 0, .int .i64 0, .int .i64 0, .int .i64 0, .int .i64 0, .int .i64 0, .int .i64 0, .int .i64 0, .int .i64 0, .int .i64 0, .int .i64 0, .int .i64 0, .int .i64 0, .int .i64 0, .int .i64 0, .int .i64 0, .int .i64 0] := by
  have h : ((Tryz.prog.info? 29).map fun i => i.zero.map fun z => z.cells.toList) = some (some [.int .i64 0, .int .i64 0, .int .i64 0, .int .i64 0, .int .i64 0, .int .i64 0, .int .i64 0, .int .i64 0, .int .i64 0, .int .i64 0, .int .i64 0, .int .i64 0, .int .i64 0, .int .i64 0, .int .i64 0, .int .i64 0, .int .i64 0]) := by kernel_rfl
  cases hq : Tryz.prog.info? 29 with
  | none => rw [hq] at h; cases h
  | some i =>
    rw [hq] at h
    simp only [Option.map_some, Option.some.injEq] at h
    obtain ⟨z, h1, h2⟩ := Option.map_eq_some_iff.1 h
    exact ⟨i, z, rfl, h1, h2⟩
set_option maxHeartbeats 16000000 in
set_option maxRecDepth 100000 in
theorem EdDecode_any (b : List UInt8) (hl : b.length ≤ 1000000) (A : Option Addr) (c : Nat) (w : World) (hs : Sv w w.heap.size 1 A c (rowsB b)) (hR : RowsIn w) :
    Calls Tryz.prog 29 #[.slice A b.length c] w (RetD (decE b) w) := by
  have hm := mixed
  have HR := Lib.hid hR
  obtain ⟨W0, hW⟩ : ∃ W, W = w.alloc (.cells #[.int .i64 0, .int .i64 0, .int .i64 0, .int .i64 0, .int .i64 0, .int .i64 0, .int .i64 0, .int .i64 0, .int .i64 0, .int .i64 0, .int .i64 0, .int .i64 0, .int .i64 0, .int .i64 0, .int .i64 0, .int .i64 0, .int .i64 0] 29) := ⟨_, rfl⟩
  have HX0 := Lib.hid (show Ext w W0 by rw [hW]; exact (Ext.refl w).alloc _)
  have HB0 := Lib.hid (show Arr W0 w.heap.size 29 [.int .i64 0, .int .i64 0, .int .i64 0, .int .i64 0, .int .i64 0, .int .i64 0, .int .i64 0, .int .i64 0, .int .i64 0, .int .i64 0, .int .i64 0, .int .i64 0, .int .i64 0, .int .i64 0, .int .i64 0, .int .i64 0, .int .i64 0] by rw [hW]; exact Arr.new w _ [.int .i64 0, .int .i64 0, .int .i64 0, .int .i64 0, .int .i64 0, .int .i64 0, .int .i64 0, .int .i64 0, .int .i64 0, .int .i64 0, .int .i64 0, .int .i64 0, .int .i64 0, .int .i64 0, .int .i64 0, .int .i64 0, .int .i64 0])
  have HG := Lib.hid (wireGetInts_any b (by omega) A c W0 (hs.ext HX0.out))
  clear hs hR
  cases hr : getL b with
  | inl er =>
    have HD := Lib.hid (show decE b = (zeroE, eno er) by unfold decE; rw [hr])
    have hq := eno_two er
    have HG2 := Lib.hid (show Calls Tryz.prog 75 #[.slice A b.length c] W0 fun e w' => e = .returned (.tuple #[.slice none 0 0, .int .i64 0, .int .i64 (eno er)]) ∧ Ext W0 w' from HG.out.mono fun e w' h => by unfold RetL at h; rw [hr] at h; exact h)
    obtain ⟨q, hqe⟩ : ∃ q, q = eno er := ⟨_, rfl⟩
    rw [← hqe] at hq HG2
    rw [← hqe] at HD
    rw [HD.out]
    clear hr HG hqe
    rcases hq with rfl | rfl
    all_goals
      go_enter Tryz.func29, Tryz.ntmps29
      go_upto_region 1 with fail
      rw [← hW]
      clear hW
      go_upto_region 2 with (go_at_call 75; refine HG2.out.mono ?_; rintro e W1 ⟨rfl, hx1⟩; have HX1 := Lib.hid (HX0.out.trans hx1); have HB1 := Lib.hid (HB0.out.ext hx1); clear hx1)
      have hn0 := HB1.out.lt
      have HB2 := Lib.hid (show Arr (W1.alloc (.cells #[.slice none 0 0] 83)) w.heap.size 29 [.int .i64 0, .int .i64 0, .int .i64 0, .int .i64 0, .int .i64 0, .int .i64 0, .int .i64 0, .int .i64 0, .int .i64 0, .int .i64 0, .int .i64 0, .int .i64 0, .int .i64 0, .int .i64 0, .int .i64 0, .int .i64 0, .int .i64 0] from HB1.out.alloc _)
      have HX2 := Lib.hid (show Ext w (W1.alloc (.cells #[.slice none 0 0] 83)) from HX1.out.alloc _)
      go_wp2_with (refine wpList_store_blk2 29 (.tmp 2) (.tmp 18) rfl rfl HB2.out [.int .i64 0, .int .i64 0, .int .i64 0, .int .i64 0, .int .i64 0, .int .i64 0, .int .i64 0, .int .i64 0, .int .i64 0, .int .i64 0, .int .i64 0, .int .i64 0, .int .i64 0, .int .i64 0, .int .i64 0, .int .i64 0, .int .i64 0] rfl rfl (by kernel_rfl) rfl rfl rfl ?_; intro W9 hW9; have HB9 := Lib.hid (show Arr W9 w.heap.size 29 [.int .i64 0, .int .i64 0, .int .i64 0, .int .i64 0, .int .i64 0, .int .i64 0, .int .i64 0, .int .i64 0, .int .i64 0, .int .i64 0, .int .i64 0, .int .i64 0, .int .i64 0, .int .i64 0, .int .i64 0, .int .i64 0, .int .i64 0] by rw [hW9]; exact HB2.out.setRow _); have HX9 := Lib.hid (show Ext w W9 by rw [hW9]; exact HX2.out.setRow (Nat.le_refl _) _); clear hW9)
      refine bodyPost_ret (v := .tuple #[.agg #[.int .i64 zeroE.st.tick, .int .i64 zeroE.st.clock, .int .i64 zeroE.st.site, .int .i64 zeroE.st.seq, .int .i64 zeroE.kind, .int .i64 zeroE.box.lo.x, .int .i64 zeroE.box.lo.y, .int .i64 zeroE.box.lo.z, .int .i64 zeroE.box.hi.x, .int .i64 zeroE.box.hi.y, .int .i64 zeroE.box.hi.z, .int .i64 zeroE.at_.x, .int .i64 zeroE.at_.y, .int .i64 zeroE.at_.z, .int .i64 zeroE.turn, .int .i64 zeroE.cell, .int .i64 zeroE.size], .int .i64 _]) ?_ rfl ⟨rfl, HX9.out⟩
      exact results_cell_row2 Tryz.results29 _ _ _ _ _ _ _ rfl (HB9.out) Tryz.underlying29 rfl (by kernel_rfl)
  | inr lk =>
    obtain ⟨l, k⟩ := lk
    have HG2 := Lib.hid (show Calls Tryz.prog 75 #[.slice A b.length c] W0 fun e w' => ∃ A c, e = .returned (.tuple #[.slice A l.length c, .int .i64 (k : Int), .int .i64 0]) ∧ w'.ownsRow W0.heap.size 3 1 (.slice A l.length c) l.length (rowsI l).flatten ∧ Ext W0 w' from HG.out.mono fun e w' h => by unfold RetL at h; rw [hr] at h; exact h)
    have hkb := (getL_back hr).1
    have HLK := Lib.hid hr
    clear HG
    by_cases hbad : k ≠ b.length ∨ l.length ≠ 17
    · have HD := Lib.hid (show decE b = (zeroE, 6) by unfold decE; rw [hr]; simp only; rw [if_pos hbad])
      rw [HD.out]
      clear hr
      have hll : l.length ≤ 1000000000 := by
        obtain ⟨_, h2, _⟩ := getL_back HLK.out
        have h3 := congrArg List.length h2
        have h4 := flat_len_ge l
        unfold encL at h3
        rw [List.length_take, List.length_append] at h3
        omega
      rcases (show k ≠ b.length ∨ (k = b.length ∧ l.length ≠ 17) by omega) with h1 | ⟨h1, h2⟩
      · have hkn : ((k : Int) != (b.length : Int)) = true := bne_iff_ne.2 (by omega)
        clear hbad
        go_enter Tryz.func29, Tryz.ntmps29
        go_upto_region 1 with fail
        rw [← hW]
        clear hW
        go_upto_region 2 with (go_at_call 75; refine HG2.out.mono ?_; rintro e W1 ⟨A1, c1, rfl, ho1, hx1⟩; have HX1 := Lib.hid (HX0.out.trans hx1); have HB1 := Lib.hid (HB0.out.ext hx1); clear ho1 hx1)
        have hn0 := HB1.out.lt
        have HB2 := Lib.hid (show Arr (W1.alloc (.cells #[.slice A1 l.length c1] 83)) w.heap.size 29 [.int .i64 0, .int .i64 0, .int .i64 0, .int .i64 0, .int .i64 0, .int .i64 0, .int .i64 0, .int .i64 0, .int .i64 0, .int .i64 0, .int .i64 0, .int .i64 0, .int .i64 0, .int .i64 0, .int .i64 0, .int .i64 0, .int .i64 0] from HB1.out.alloc _)
        have HX2 := Lib.hid (show Ext w (W1.alloc (.cells #[.slice A1 l.length c1] 83)) from HX1.out.alloc _)
        go_wp2_with (refine wpList_store_blk2 29 (.tmp 2) (.tmp 30) rfl rfl HB2.out [.int .i64 0, .int .i64 0, .int .i64 0, .int .i64 0, .int .i64 0, .int .i64 0, .int .i64 0, .int .i64 0, .int .i64 0, .int .i64 0, .int .i64 0, .int .i64 0, .int .i64 0, .int .i64 0, .int .i64 0, .int .i64 0, .int .i64 0] rfl rfl (by kernel_rfl) rfl rfl rfl ?_; intro W9 hW9; have HB9 := Lib.hid (show Arr W9 w.heap.size 29 [.int .i64 0, .int .i64 0, .int .i64 0, .int .i64 0, .int .i64 0, .int .i64 0, .int .i64 0, .int .i64 0, .int .i64 0, .int .i64 0, .int .i64 0, .int .i64 0, .int .i64 0, .int .i64 0, .int .i64 0, .int .i64 0, .int .i64 0] by rw [hW9]; exact HB2.out.setRow _); have HX9 := Lib.hid (show Ext w W9 by rw [hW9]; exact HX2.out.setRow (Nat.le_refl _) _); clear hW9)
        refine bodyPost_ret (v := .tuple #[.agg #[.int .i64 zeroE.st.tick, .int .i64 zeroE.st.clock, .int .i64 zeroE.st.site, .int .i64 zeroE.st.seq, .int .i64 zeroE.kind, .int .i64 zeroE.box.lo.x, .int .i64 zeroE.box.lo.y, .int .i64 zeroE.box.lo.z, .int .i64 zeroE.box.hi.x, .int .i64 zeroE.box.hi.y, .int .i64 zeroE.box.hi.z, .int .i64 zeroE.at_.x, .int .i64 zeroE.at_.y, .int .i64 zeroE.at_.z, .int .i64 zeroE.turn, .int .i64 zeroE.cell, .int .i64 zeroE.size], .int .i64 6]) ?_ rfl ⟨rfl, HX9.out⟩
        exact results_cell_row2 Tryz.results29 _ _ _ _ _ _ _ rfl (HB9.out) Tryz.underlying29 rfl (by kernel_rfl)
      · have hkn : ((k : Int) != (b.length : Int)) = false := bne_eq_false_iff_eq.2 (by omega)
        have hln : ((l.length : Int) != 17) = true := bne_iff_ne.2 (by omega)
        clear hbad
        go_enter Tryz.func29, Tryz.ntmps29
        go_upto_region 1 with fail
        rw [← hW]
        clear hW
        go_upto_region 2 with (go_at_call 75; refine HG2.out.mono ?_; rintro e W1 ⟨A1, c1, rfl, ho1, hx1⟩; have HX1 := Lib.hid (HX0.out.trans hx1); have HB1 := Lib.hid (HB0.out.ext hx1); clear ho1 hx1)
        have hn0 := HB1.out.lt
        have HB2 := Lib.hid (show Arr (W1.alloc (.cells #[.slice A1 l.length c1] 83)) w.heap.size 29 [.int .i64 0, .int .i64 0, .int .i64 0, .int .i64 0, .int .i64 0, .int .i64 0, .int .i64 0, .int .i64 0, .int .i64 0, .int .i64 0, .int .i64 0, .int .i64 0, .int .i64 0, .int .i64 0, .int .i64 0, .int .i64 0, .int .i64 0] from HB1.out.alloc _)
        have HX2 := Lib.hid (show Ext w (W1.alloc (.cells #[.slice A1 l.length c1] 83)) from HX1.out.alloc _)
        go_wp2_with (refine wpList_store_blk2 29 (.tmp 2) (.tmp 30) rfl rfl HB2.out [.int .i64 0, .int .i64 0, .int .i64 0, .int .i64 0, .int .i64 0, .int .i64 0, .int .i64 0, .int .i64 0, .int .i64 0, .int .i64 0, .int .i64 0, .int .i64 0, .int .i64 0, .int .i64 0, .int .i64 0, .int .i64 0, .int .i64 0] rfl rfl (by kernel_rfl) rfl rfl rfl ?_; intro W9 hW9; have HB9 := Lib.hid (show Arr W9 w.heap.size 29 [.int .i64 0, .int .i64 0, .int .i64 0, .int .i64 0, .int .i64 0, .int .i64 0, .int .i64 0, .int .i64 0, .int .i64 0, .int .i64 0, .int .i64 0, .int .i64 0, .int .i64 0, .int .i64 0, .int .i64 0, .int .i64 0, .int .i64 0] by rw [hW9]; exact HB2.out.setRow _); have HX9 := Lib.hid (show Ext w W9 by rw [hW9]; exact HX2.out.setRow (Nat.le_refl _) _); clear hW9)
        refine bodyPost_ret (v := .tuple #[.agg #[.int .i64 zeroE.st.tick, .int .i64 zeroE.st.clock, .int .i64 zeroE.st.site, .int .i64 zeroE.st.seq, .int .i64 zeroE.kind, .int .i64 zeroE.box.lo.x, .int .i64 zeroE.box.lo.y, .int .i64 zeroE.box.lo.z, .int .i64 zeroE.box.hi.x, .int .i64 zeroE.box.hi.y, .int .i64 zeroE.box.hi.z, .int .i64 zeroE.at_.x, .int .i64 zeroE.at_.y, .int .i64 zeroE.at_.z, .int .i64 zeroE.turn, .int .i64 zeroE.cell, .int .i64 zeroE.size], .int .i64 6]) ?_ rfl ⟨rfl, HX9.out⟩
        exact results_cell_row2 Tryz.results29 _ _ _ _ _ _ _ rfl (HB9.out) Tryz.underlying29 rfl (by kernel_rfl)
    · obtain ⟨rfl, hl17⟩ : k = b.length ∧ l.length = 17 := by omega
      obtain ⟨x, hx⟩ : ∃ x, x = edOf l := ⟨_, rfl⟩
      have hnx : numsE x = l := by rw [hx]; exact numsE_edOf hl17
      have HD := Lib.hid (show decE b = if formedE x then (x, 0) else (zeroE, 1) by unfold decE; rw [hr]; simp only; rw [if_neg hbad, hx])
      rw [HD.out]
      rw [← hnx] at HG2
      clear hr hbad hx hl17 HD hnx HLK
      have HG3 := Lib.hid (show Calls Tryz.prog 75 #[.slice A b.length c] W0 fun e w' => ∃ A c, e = .returned (.tuple #[.slice A 17 c, .int .i64 (b.length : Int), .int .i64 0]) ∧ w'.ownsRow W0.heap.size 3 1 (.slice A 17 c) 17 (rowsI (numsE x)).flatten ∧ Ext W0 w' from HG2.out)
      clear HG2
      go_enter Tryz.func29, Tryz.ntmps29
      go_upto_region 1 with fail
      rw [← hW]
      clear hW
      go_upto_region 2 with (go_at_call 75; refine HG3.out.mono ?_; rintro e W1 ⟨A1, c1, rfl, ho1, hx1⟩; have HX1 := Lib.hid (HX0.out.trans hx1); have HB1 := Lib.hid (HB0.out.ext hx1); have HO1 := Lib.hid ho1; clear ho1 hx1)
      have hn0 := HB1.out.lt
      obtain ⟨g, hA1, hcell, hgl, hc17⟩ : ∃ g, A1 = some ⟨g, 0, none⟩ ∧ (∀ (j : Nat) v, x.cells[j]? = some v → W1.cell? ⟨g, j, none⟩ = some v) ∧ g < W1.heap.size ∧ 17 ≤ c1 := by
        rcases HO1.out.2 with ⟨h1, h2⟩ | ⟨g, cap, cur, h1, hbg, hg, hnc, hcm, hcs, htake⟩
        · omega
        · injection h1 with h1 h2 h3
          subst h3
          refine ⟨g, h1, fun j v hv => ?_, (Array.getElem?_eq_some_iff.1 hg).1, hnc⟩
          rw [cell_of_row _ _ _ _ _ _ hg]
          have hj : j < 17 := (List.getElem?_eq_some_iff.1 hv).1
          have h5 : (cur.toList.take (17 * 1))[j]? = some v := by rw [htake]; exact hv
          rw [List.getElem?_take, if_pos (by omega)] at h5
          simpa using h5
      subst hA1
      obtain ⟨W2, hW2⟩ : ∃ W, W = W1.alloc (.cells #[.slice (some ⟨g, 0, none⟩) 17 c1] 83) := ⟨_, rfl⟩
      obtain ⟨n4, hn4⟩ : ∃ n, n = W1.heap.size := ⟨_, rfl⟩
      have hx12 : Ext W1 W2 := by rw [hW2]; exact (Ext.refl W1).alloc _
      have HB2 := Lib.hid (HB1.out.ext hx12); have HX2 := Lib.hid (HX1.out.trans hx12)
      have HA4 := Lib.hid (show Arr W2 n4 83 [.slice (some ⟨g, 0, none⟩) 17 c1] by rw [hW2, hn4]; exact Arr.new W1 _ _)
      have HQC := Lib.hid (fun (j : Nat) v (hv : x.cells[j]? = some v) => (hx12.cell (p := ⟨g, j, none⟩) hgl).trans (hcell j v hv))
      have HGL := Lib.hid (Nat.lt_of_lt_of_le hgl hx12.size)
      rw [← hW2, ← hn4]
      rw [← hn4] at hn0
      clear hx12 hcell hW2 HO1 HB1 HX1 hgl hn4
      have c4 := HA4.out.cell 0; have l4 := HA4.out.lt
      have e17 : ((b.length : Int) != (b.length : Int)) = false := bne_eq_false_iff_eq.2 rfl
      have HL4 := Lib.hid l4
      have HLG := Lib.hid HGL.out
      have Q4 := Lib.hid (fun (w1 : World) (hx : Ext W2 w1) => (show w1.cell? ⟨n4, 0, none⟩ = some (.slice (some ⟨g, 0, none⟩) 17 c1) from (HA4.out.ext hx).cell 0))
      have QC := Lib.hid (fun (w1 : World) (hx : Ext W2 w1) (j : Nat) v (hv : x.cells[j]? = some v) => (hx.cell (p := ⟨g, j, none⟩) HGL.out).trans (HQC.out j v hv))
      go_upto_region 7 with fail
      clear c4 l4 e17
      refine wp_region_box2 (w := W2) (fun i => match i with | 0 => .slice (some ⟨g, 0, none⟩) 17 c1 | 1 => .pointer (some ⟨g, 0, none⟩) | 2 => .int .i64 x.st.tick | 3 => .slice (some ⟨g, 0, none⟩) 17 c1 | 4 => .pointer (some ⟨g, 1, none⟩) | 5 => .int .i64 x.st.clock | 6 => .slice (some ⟨g, 0, none⟩) 17 c1 | 7 => .pointer (some ⟨g, 2, none⟩) | 8 => .int .i64 x.st.site | 9 => .slice (some ⟨g, 0, none⟩) 17 c1 | 10 => .pointer (some ⟨g, 3, none⟩) | 11 => .int .i64 x.st.seq | 12 => .agg #[.int .i64 x.st.tick, .int .i64 x.st.clock, .int .i64 x.st.site, .int .i64 x.st.seq] | 13 => .slice (some ⟨g, 0, none⟩) 17 c1 | 14 => .pointer (some ⟨g, 4, none⟩) | 15 => .int .i64 x.kind | 16 => .func (.func 76) #[] #[.pointer (some ⟨n4, 0, none⟩)] | 17 => .agg #[.int .i64 x.box.lo.x, .int .i64 x.box.lo.y, .int .i64 x.box.lo.z] | 18 => .func (.func 76) #[] #[.pointer (some ⟨n4, 0, none⟩)] | 19 => .agg #[.int .i64 x.box.hi.x, .int .i64 x.box.hi.y, .int .i64 x.box.hi.z] | 20 => .agg #[.int .i64 x.box.lo.x, .int .i64 x.box.lo.y, .int .i64 x.box.lo.z, .int .i64 x.box.hi.x, .int .i64 x.box.hi.y, .int .i64 x.box.hi.z] | 21 => .func (.func 76) #[] #[.pointer (some ⟨n4, 0, none⟩)] | 22 => .agg #[.int .i64 x.at_.x, .int .i64 x.at_.y, .int .i64 x.at_.z] | 23 => .slice (some ⟨g, 0, none⟩) 17 c1 | 24 => .pointer (some ⟨g, 14, none⟩) | 25 => .int .i64 x.turn | 26 => .slice (some ⟨g, 0, none⟩) 17 c1 | 27 => .pointer (some ⟨g, 15, none⟩) | 28 => .int .i64 x.cell | 29 => .slice (some ⟨g, 0, none⟩) 17 c1 | 30 => .pointer (some ⟨g, 16, none⟩) | 31 => .int .i64 x.size | 32 => .agg #[.int .i64 x.st.tick, .int .i64 x.st.clock, .int .i64 x.st.site, .int .i64 x.st.seq, .int .i64 x.kind, .int .i64 x.box.lo.x, .int .i64 x.box.lo.y, .int .i64 x.box.lo.z, .int .i64 x.box.hi.x, .int .i64 x.box.hi.y, .int .i64 x.box.hi.z, .int .i64 x.at_.x, .int .i64 x.at_.y, .int .i64 x.at_.z, .int .i64 x.turn, .int .i64 x.cell, .int .i64 x.size] | _ => undef) 33 29 8 64 32 [.int .i64 0, .int .i64 0, .int .i64 0, .int .i64 0, .int .i64 0, .int .i64 0, .int .i64 0, .int .i64 0, .int .i64 0, .int .i64 0, .int .i64 0, .int .i64 0, .int .i64 0, .int .i64 0, .int .i64 0, .int .i64 0, .int .i64 0] [.int .i64 x.st.tick, .int .i64 x.st.clock, .int .i64 x.st.site, .int .i64 x.st.seq, .int .i64 x.kind, .int .i64 x.box.lo.x, .int .i64 x.box.lo.y, .int .i64 x.box.lo.z, .int .i64 x.box.hi.x, .int .i64 x.box.hi.y, .int .i64 x.box.hi.z, .int .i64 x.at_.x, .int .i64 x.at_.y, .int .i64 x.at_.z, .int .i64 x.turn, .int .i64 x.cell, .int .i64 x.size] hm (by kernel_rfl) (by kernel_rfl) (noGuardD (by kernel_rfl)) rfl ⟨_, rfl, rfl, rfl⟩ ⟨_, rfl, rfl, rfl, ⟨⟨33, .data⟩, by simp, rfl, rfl⟩, ⟨⟨32, .data⟩, by simp, rfl, rfl⟩⟩ (by decide) rfl (by simp) (by simp) rfl infoE1 (by kernel_rfl) rfl rfl ?_ ?_
      · intro listed w1 i o ho hin hdep hx b K E0 E1 hK
        match i, ho with
        | 0, ho =>
          obtain rfl := Option.some.inj ho
          have e := E0 4 (by kernel_rfl)
          simp only [List.getElem?_toArray, List.getElem?_cons_zero, List.getElem?_cons_succ] at e
          exact op_run (v := .slice (some ⟨g, 0, none⟩) 17 c1) (w2 := w1) (by unfold execOp; simp [e, Act.eval, go_sem, Q4.out w1 hx]) (hK w1 (Ext.refl _))
            | 1, ho =>
          obtain rfl := Option.some.inj ho
          have e0 := E1 0 32 (by decide) (getD_up (hdep ⟨0, .data⟩ (by simp) rfl)) rfl (by simp)
          exact op_run (v := .pointer (some ⟨g, 0, none⟩)) (w2 := w1) (by unfold execOp; simp [e0, Act.eval, go_sem]) (hK w1 (Ext.refl _))
            | 2, ho =>
          obtain rfl := Option.some.inj ho
          have e1 := E1 1 33 (by decide) (getD_up (hdep ⟨1, .data⟩ (by simp) rfl)) rfl (by simp)
          exact op_run (v := .int .i64 x.st.tick) (w2 := w1) (by unfold execOp; simp [e1, Act.eval, go_sem, QC.out w1 hx 0 (.int .i64 x.st.tick) rfl]) (hK w1 (Ext.refl _))
            | 3, ho =>
          obtain rfl := Option.some.inj ho
          have e := E0 4 (by kernel_rfl)
          simp only [List.getElem?_toArray, List.getElem?_cons_zero, List.getElem?_cons_succ] at e
          exact op_run (v := .slice (some ⟨g, 0, none⟩) 17 c1) (w2 := w1) (by unfold execOp; simp [e, Act.eval, go_sem, Q4.out w1 hx]) (hK w1 (Ext.refl _))
            | 4, ho =>
          obtain rfl := Option.some.inj ho
          have e3 := E1 3 35 (by decide) (getD_up (hdep ⟨3, .data⟩ (by simp) rfl)) rfl (by simp)
          exact op_run (v := .pointer (some ⟨g, 1, none⟩)) (w2 := w1) (by unfold execOp; simp [e3, Act.eval, go_sem]) (hK w1 (Ext.refl _))
            | 5, ho =>
          obtain rfl := Option.some.inj ho
          have e4 := E1 4 36 (by decide) (getD_up (hdep ⟨4, .data⟩ (by simp) rfl)) rfl (by simp)
          exact op_run (v := .int .i64 x.st.clock) (w2 := w1) (by unfold execOp; simp [e4, Act.eval, go_sem, QC.out w1 hx 1 (.int .i64 x.st.clock) rfl]) (hK w1 (Ext.refl _))
            | 6, ho =>
          obtain rfl := Option.some.inj ho
          have e := E0 4 (by kernel_rfl)
          simp only [List.getElem?_toArray, List.getElem?_cons_zero, List.getElem?_cons_succ] at e
          exact op_run (v := .slice (some ⟨g, 0, none⟩) 17 c1) (w2 := w1) (by unfold execOp; simp [e, Act.eval, go_sem, Q4.out w1 hx]) (hK w1 (Ext.refl _))
            | 7, ho =>
          obtain rfl := Option.some.inj ho
          have e6 := E1 6 38 (by decide) (getD_up (hdep ⟨6, .data⟩ (by simp) rfl)) rfl (by simp)
          exact op_run (v := .pointer (some ⟨g, 2, none⟩)) (w2 := w1) (by unfold execOp; simp [e6, Act.eval, go_sem]) (hK w1 (Ext.refl _))
            | 8, ho =>
          obtain rfl := Option.some.inj ho
          have e7 := E1 7 39 (by decide) (getD_up (hdep ⟨7, .data⟩ (by simp) rfl)) rfl (by simp)
          exact op_run (v := .int .i64 x.st.site) (w2 := w1) (by unfold execOp; simp [e7, Act.eval, go_sem, QC.out w1 hx 2 (.int .i64 x.st.site) rfl]) (hK w1 (Ext.refl _))
            | 9, ho =>
          obtain rfl := Option.some.inj ho
          have e := E0 4 (by kernel_rfl)
          simp only [List.getElem?_toArray, List.getElem?_cons_zero, List.getElem?_cons_succ] at e
          exact op_run (v := .slice (some ⟨g, 0, none⟩) 17 c1) (w2 := w1) (by unfold execOp; simp [e, Act.eval, go_sem, Q4.out w1 hx]) (hK w1 (Ext.refl _))
            | 10, ho =>
          obtain rfl := Option.some.inj ho
          have e9 := E1 9 41 (by decide) (getD_up (hdep ⟨9, .data⟩ (by simp) rfl)) rfl (by simp)
          exact op_run (v := .pointer (some ⟨g, 3, none⟩)) (w2 := w1) (by unfold execOp; simp [e9, Act.eval, go_sem]) (hK w1 (Ext.refl _))
            | 11, ho =>
          obtain rfl := Option.some.inj ho
          have e10 := E1 10 42 (by decide) (getD_up (hdep ⟨10, .data⟩ (by simp) rfl)) rfl (by simp)
          exact op_run (v := .int .i64 x.st.seq) (w2 := w1) (by unfold execOp; simp [e10, Act.eval, go_sem, QC.out w1 hx 3 (.int .i64 x.st.seq) rfl]) (hK w1 (Ext.refl _))
            | 12, ho =>
          obtain rfl := Option.some.inj ho
          have e2 := E1 2 34 (by decide) (getD_up (hdep ⟨2, .data⟩ (by simp) rfl)) rfl (by simp)
          have e5 := E1 5 37 (by decide) (getD_up (hdep ⟨5, .data⟩ (by simp) rfl)) rfl (by simp)
          have e8 := E1 8 40 (by decide) (getD_up (hdep ⟨8, .data⟩ (by simp) rfl)) rfl (by simp)
          have e11 := E1 11 43 (by decide) (getD_up (hdep ⟨11, .data⟩ (by simp) rfl)) rfl (by simp)
          exact op_run (v := .agg #[.int .i64 x.st.tick, .int .i64 x.st.clock, .int .i64 x.st.site, .int .i64 x.st.seq]) (w2 := w1) (by unfold execOp; simp [e2, e5, e8, e11, Act.eval, go_sem]) (hK w1 (Ext.refl _))
            | 13, ho =>
          obtain rfl := Option.some.inj ho
          have e := E0 4 (by kernel_rfl)
          simp only [List.getElem?_toArray, List.getElem?_cons_zero, List.getElem?_cons_succ] at e
          exact op_run (v := .slice (some ⟨g, 0, none⟩) 17 c1) (w2 := w1) (by unfold execOp; simp [e, Act.eval, go_sem, Q4.out w1 hx]) (hK w1 (Ext.refl _))
            | 14, ho =>
          obtain rfl := Option.some.inj ho
          have e13 := E1 13 45 (by decide) (getD_up (hdep ⟨13, .data⟩ (by simp) rfl)) rfl (by simp)
          exact op_run (v := .pointer (some ⟨g, 4, none⟩)) (w2 := w1) (by unfold execOp; simp [e13, Act.eval, go_sem]) (hK w1 (Ext.refl _))
            | 15, ho =>
          obtain rfl := Option.some.inj ho
          have e14 := E1 14 46 (by decide) (getD_up (hdep ⟨14, .data⟩ (by simp) rfl)) rfl (by simp)
          exact op_run (v := .int .i64 x.kind) (w2 := w1) (by unfold execOp; simp [e14, Act.eval, go_sem, QC.out w1 hx 4 (.int .i64 x.kind) rfl]) (hK w1 (Ext.refl _))
            | 16, ho =>
          obtain rfl := Option.some.inj ho
          have e := E0 7 (by kernel_rfl)
          simp only [List.getElem?_toArray, List.getElem?_cons_zero, List.getElem?_cons_succ] at e
          exact op_move rfl (eval_of e) (hK w1 (Ext.refl _))
            | 17, ho =>
          obtain rfl := Option.some.inj ho
          have e16 := E1 16 48 (by decide) (getD_up (hdep ⟨16, .data⟩ (by simp) rfl)) rfl (by simp)
          refine op_callF (f := 76) (caps := #[.pointer (some ⟨n4, 0, none⟩)]) (vs := #[.int .i64 5, .pointer (some ⟨n4, 0, none⟩)]) (G := fun v w' => v = .agg #[.int .i64 x.box.lo.x, .int .i64 x.box.lo.y, .int .i64 x.box.lo.z] ∧ Ext w1 w') rfl (eval_of e16) (by simp [Act.eval]) (fun _ _ => by kernel_rfl) ((decAt_any 5 17 c1 g n4 x.box.lo.x x.box.lo.y x.box.lo.z (by decide) (by decide) w1 (Q4.out w1 hx) (Nat.lt_of_lt_of_le HL4.out hx.size) (Nat.lt_of_lt_of_le HLG.out hx.size) (QC.out w1 hx 5 _ rfl) (QC.out w1 hx 6 _ rfl) (QC.out w1 hx 7 _ rfl)).mono fun e w' h => ⟨_, h.1, rfl, h.2⟩) (fun v w' h => ?_)
          obtain ⟨rfl, h2⟩ := h
          exact hK w' h2
            | 18, ho =>
          obtain rfl := Option.some.inj ho
          have e := E0 7 (by kernel_rfl)
          simp only [List.getElem?_toArray, List.getElem?_cons_zero, List.getElem?_cons_succ] at e
          exact op_move rfl (eval_of e) (hK w1 (Ext.refl _))
            | 19, ho =>
          obtain rfl := Option.some.inj ho
          have e18 := E1 18 50 (by decide) (getD_up (hdep ⟨18, .data⟩ (by simp) rfl)) rfl (by simp)
          refine op_callF (f := 76) (caps := #[.pointer (some ⟨n4, 0, none⟩)]) (vs := #[.int .i64 8, .pointer (some ⟨n4, 0, none⟩)]) (G := fun v w' => v = .agg #[.int .i64 x.box.hi.x, .int .i64 x.box.hi.y, .int .i64 x.box.hi.z] ∧ Ext w1 w') rfl (eval_of e18) (by simp [Act.eval]) (fun _ _ => by kernel_rfl) ((decAt_any 8 17 c1 g n4 x.box.hi.x x.box.hi.y x.box.hi.z (by decide) (by decide) w1 (Q4.out w1 hx) (Nat.lt_of_lt_of_le HL4.out hx.size) (Nat.lt_of_lt_of_le HLG.out hx.size) (QC.out w1 hx 8 _ rfl) (QC.out w1 hx 9 _ rfl) (QC.out w1 hx 10 _ rfl)).mono fun e w' h => ⟨_, h.1, rfl, h.2⟩) (fun v w' h => ?_)
          obtain ⟨rfl, h2⟩ := h
          exact hK w' h2
            | 20, ho =>
          obtain rfl := Option.some.inj ho
          have e17 := E1 17 49 (by decide) (getD_up (hdep ⟨17, .data⟩ (by simp) rfl)) rfl (by simp)
          have e19 := E1 19 51 (by decide) (getD_up (hdep ⟨19, .data⟩ (by simp) rfl)) rfl (by simp)
          exact op_run (v := .agg #[.int .i64 x.box.lo.x, .int .i64 x.box.lo.y, .int .i64 x.box.lo.z, .int .i64 x.box.hi.x, .int .i64 x.box.hi.y, .int .i64 x.box.hi.z]) (w2 := w1) (by unfold execOp; simp [e17, e19, Act.eval, go_sem]) (hK w1 (Ext.refl _))
            | 21, ho =>
          obtain rfl := Option.some.inj ho
          have e := E0 7 (by kernel_rfl)
          simp only [List.getElem?_toArray, List.getElem?_cons_zero, List.getElem?_cons_succ] at e
          exact op_move rfl (eval_of e) (hK w1 (Ext.refl _))
            | 22, ho =>
          obtain rfl := Option.some.inj ho
          have e21 := E1 21 53 (by decide) (getD_up (hdep ⟨21, .data⟩ (by simp) rfl)) rfl (by simp)
          refine op_callF (f := 76) (caps := #[.pointer (some ⟨n4, 0, none⟩)]) (vs := #[.int .i64 11, .pointer (some ⟨n4, 0, none⟩)]) (G := fun v w' => v = .agg #[.int .i64 x.at_.x, .int .i64 x.at_.y, .int .i64 x.at_.z] ∧ Ext w1 w') rfl (eval_of e21) (by simp [Act.eval]) (fun _ _ => by kernel_rfl) ((decAt_any 11 17 c1 g n4 x.at_.x x.at_.y x.at_.z (by decide) (by decide) w1 (Q4.out w1 hx) (Nat.lt_of_lt_of_le HL4.out hx.size) (Nat.lt_of_lt_of_le HLG.out hx.size) (QC.out w1 hx 11 _ rfl) (QC.out w1 hx 12 _ rfl) (QC.out w1 hx 13 _ rfl)).mono fun e w' h => ⟨_, h.1, rfl, h.2⟩) (fun v w' h => ?_)
          obtain ⟨rfl, h2⟩ := h
          exact hK w' h2
            | 23, ho =>
          obtain rfl := Option.some.inj ho
          have e := E0 4 (by kernel_rfl)
          simp only [List.getElem?_toArray, List.getElem?_cons_zero, List.getElem?_cons_succ] at e
          exact op_run (v := .slice (some ⟨g, 0, none⟩) 17 c1) (w2 := w1) (by unfold execOp; simp [e, Act.eval, go_sem, Q4.out w1 hx]) (hK w1 (Ext.refl _))
            | 24, ho =>
          obtain rfl := Option.some.inj ho
          have e23 := E1 23 55 (by decide) (getD_up (hdep ⟨23, .data⟩ (by simp) rfl)) rfl (by simp)
          exact op_run (v := .pointer (some ⟨g, 14, none⟩)) (w2 := w1) (by unfold execOp; simp [e23, Act.eval, go_sem]) (hK w1 (Ext.refl _))
            | 25, ho =>
          obtain rfl := Option.some.inj ho
          have e24 := E1 24 56 (by decide) (getD_up (hdep ⟨24, .data⟩ (by simp) rfl)) rfl (by simp)
          exact op_run (v := .int .i64 x.turn) (w2 := w1) (by unfold execOp; simp [e24, Act.eval, go_sem, QC.out w1 hx 14 (.int .i64 x.turn) rfl]) (hK w1 (Ext.refl _))
            | 26, ho =>
          obtain rfl := Option.some.inj ho
          have e := E0 4 (by kernel_rfl)
          simp only [List.getElem?_toArray, List.getElem?_cons_zero, List.getElem?_cons_succ] at e
          exact op_run (v := .slice (some ⟨g, 0, none⟩) 17 c1) (w2 := w1) (by unfold execOp; simp [e, Act.eval, go_sem, Q4.out w1 hx]) (hK w1 (Ext.refl _))
            | 27, ho =>
          obtain rfl := Option.some.inj ho
          have e26 := E1 26 58 (by decide) (getD_up (hdep ⟨26, .data⟩ (by simp) rfl)) rfl (by simp)
          exact op_run (v := .pointer (some ⟨g, 15, none⟩)) (w2 := w1) (by unfold execOp; simp [e26, Act.eval, go_sem]) (hK w1 (Ext.refl _))
            | 28, ho =>
          obtain rfl := Option.some.inj ho
          have e27 := E1 27 59 (by decide) (getD_up (hdep ⟨27, .data⟩ (by simp) rfl)) rfl (by simp)
          exact op_run (v := .int .i64 x.cell) (w2 := w1) (by unfold execOp; simp [e27, Act.eval, go_sem, QC.out w1 hx 15 (.int .i64 x.cell) rfl]) (hK w1 (Ext.refl _))
            | 29, ho =>
          obtain rfl := Option.some.inj ho
          have e := E0 4 (by kernel_rfl)
          simp only [List.getElem?_toArray, List.getElem?_cons_zero, List.getElem?_cons_succ] at e
          exact op_run (v := .slice (some ⟨g, 0, none⟩) 17 c1) (w2 := w1) (by unfold execOp; simp [e, Act.eval, go_sem, Q4.out w1 hx]) (hK w1 (Ext.refl _))
            | 30, ho =>
          obtain rfl := Option.some.inj ho
          have e29 := E1 29 61 (by decide) (getD_up (hdep ⟨29, .data⟩ (by simp) rfl)) rfl (by simp)
          exact op_run (v := .pointer (some ⟨g, 16, none⟩)) (w2 := w1) (by unfold execOp; simp [e29, Act.eval, go_sem]) (hK w1 (Ext.refl _))
            | 31, ho =>
          obtain rfl := Option.some.inj ho
          have e30 := E1 30 62 (by decide) (getD_up (hdep ⟨30, .data⟩ (by simp) rfl)) rfl (by simp)
          exact op_run (v := .int .i64 x.size) (w2 := w1) (by unfold execOp; simp [e30, Act.eval, go_sem, QC.out w1 hx 16 (.int .i64 x.size) rfl]) (hK w1 (Ext.refl _))
            | 32, ho =>
          obtain rfl := Option.some.inj ho
          have e12 := E1 12 44 (by decide) (getD_up (hdep ⟨12, .data⟩ (by simp) rfl)) rfl (by simp)
          have e15 := E1 15 47 (by decide) (getD_up (hdep ⟨15, .data⟩ (by simp) rfl)) rfl (by simp)
          have e20 := E1 20 52 (by decide) (getD_up (hdep ⟨20, .data⟩ (by simp) rfl)) rfl (by simp)
          have e22 := E1 22 54 (by decide) (getD_up (hdep ⟨22, .data⟩ (by simp) rfl)) rfl (by simp)
          have e25 := E1 25 57 (by decide) (getD_up (hdep ⟨25, .data⟩ (by simp) rfl)) rfl (by simp)
          have e28 := E1 28 60 (by decide) (getD_up (hdep ⟨28, .data⟩ (by simp) rfl)) rfl (by simp)
          have e31 := E1 31 63 (by decide) (getD_up (hdep ⟨31, .data⟩ (by simp) rfl)) rfl (by simp)
          exact op_run (v := .agg #[.int .i64 x.st.tick, .int .i64 x.st.clock, .int .i64 x.st.site, .int .i64 x.st.seq, .int .i64 x.kind, .int .i64 x.box.lo.x, .int .i64 x.box.lo.y, .int .i64 x.box.lo.z, .int .i64 x.box.hi.x, .int .i64 x.box.hi.y, .int .i64 x.box.hi.z, .int .i64 x.at_.x, .int .i64 x.at_.y, .int .i64 x.at_.z, .int .i64 x.turn, .int .i64 x.cell, .int .i64 x.size]) (w2 := w1) (by unfold execOp; simp [e12, e15, e20, e22, e25, e28, e31, Act.eval, go_sem]) (hK w1 (Ext.refl _))
            | i + 33, ho => omega
      · intro g8 W8 hx hg8 A8
        simp only [List.length_cons, List.length_nil, fillAllN, dstOf, Act.put, List.getElem?_toArray, List.getElem?_cons_zero, List.getElem?_cons_succ, Option.bind_some, List.setIfInBounds_toArray, List.set_cons_zero, List.set_cons_succ, boxV, Nat.lt_irrefl, if_false, if_true, Nat.reduceLT, Nat.reduceEqDiff, Nat.reduceAdd]
        have HB8 := Lib.hid (HB2.out.ext hx); have HX8 := Lib.hid (HX2.out.trans hx); have HA8 := Lib.hid A8
        have HF := Lib.hid (Formed_any x W8 (HR.out.ext HX8.out))
        clear hx hg8 A8 Q4 QC HL4 HLG HB2 HX2 HA4 HQC HGL
        cases hf : formedE x
        · rw [hf] at HF
          rw [if_neg (by simp)]
          go_upto_region 9 with (first
            | (refine wpList_load_blk 29 (.tmp 8) rfl rfl HA8.out rfl _ Tryz.underlying29 rfl (by kernel_rfl) ?_) | (refine wpList_load_blk 29 (.tmp 8) rfl rfl (HA8.out.alloc _) rfl _ Tryz.underlying29 rfl (by kernel_rfl) ?_) | (refine wpList_load_blk 29 (.tmp 8) rfl rfl ((HA8.out.alloc _).alloc _) rfl _ Tryz.underlying29 rfl (by kernel_rfl) ?_)
            | (go_at_call 13; refine HF.out.mono ?_; rintro e w2 ⟨rfl, hx2⟩; have HB8 := Lib.hid (HB8.out.ext hx2); have HX8 := Lib.hid (HX8.out.trans hx2); clear hx2))
          go_wp2_with (refine wpList_store_blk2 29 (.tmp 2) (.tmp 68) rfl rfl HB8.out [.int .i64 0, .int .i64 0, .int .i64 0, .int .i64 0, .int .i64 0, .int .i64 0, .int .i64 0, .int .i64 0, .int .i64 0, .int .i64 0, .int .i64 0, .int .i64 0, .int .i64 0, .int .i64 0, .int .i64 0, .int .i64 0, .int .i64 0] rfl rfl (by kernel_rfl) rfl rfl rfl ?_; intro W9 hW9; have HB9 := Lib.hid (show Arr W9 w.heap.size 29 [.int .i64 0, .int .i64 0, .int .i64 0, .int .i64 0, .int .i64 0, .int .i64 0, .int .i64 0, .int .i64 0, .int .i64 0, .int .i64 0, .int .i64 0, .int .i64 0, .int .i64 0, .int .i64 0, .int .i64 0, .int .i64 0, .int .i64 0] by rw [hW9]; exact HB8.out.setRow _); have HX9 := Lib.hid (show Ext w W9 by rw [hW9]; exact HX8.out.setRow (Nat.le_refl _) _); clear hW9)
          all_goals
            refine bodyPost_ret (v := .tuple #[.agg #[.int .i64 zeroE.st.tick, .int .i64 zeroE.st.clock, .int .i64 zeroE.st.site, .int .i64 zeroE.st.seq, .int .i64 zeroE.kind, .int .i64 zeroE.box.lo.x, .int .i64 zeroE.box.lo.y, .int .i64 zeroE.box.lo.z, .int .i64 zeroE.box.hi.x, .int .i64 zeroE.box.hi.y, .int .i64 zeroE.box.hi.z, .int .i64 zeroE.at_.x, .int .i64 zeroE.at_.y, .int .i64 zeroE.at_.z, .int .i64 zeroE.turn, .int .i64 zeroE.cell, .int .i64 zeroE.size], .int .i64 1]) ?_ rfl ⟨rfl, HX9.out⟩
            exact results_cell_row2 Tryz.results29 _ _ _ _ _ _ _ rfl (HB9.out) Tryz.underlying29 rfl (by kernel_rfl)
        · rw [hf] at HF
          rw [if_pos rfl]
          go_upto_region 10 with (first
            | (refine wpList_load_blk 29 (.tmp 8) rfl rfl HA8.out rfl _ Tryz.underlying29 rfl (by kernel_rfl) ?_) | (refine wpList_load_blk 29 (.tmp 8) rfl rfl (HA8.out.alloc _) rfl _ Tryz.underlying29 rfl (by kernel_rfl) ?_) | (refine wpList_load_blk 29 (.tmp 8) rfl rfl ((HA8.out.alloc _).alloc _) rfl _ Tryz.underlying29 rfl (by kernel_rfl) ?_)
            | (go_at_call 13; refine HF.out.mono ?_; rintro e w2 ⟨rfl, hx2⟩; have HB8 := Lib.hid (HB8.out.ext hx2); have HX8 := Lib.hid (HX8.out.trans hx2); have HA9 := Lib.hid (HA8.out.ext hx2); clear hx2))
          go_wp2_with (first
            | (refine wpList_load_blk 29 (.tmp 8) rfl rfl HA9.out rfl _ Tryz.underlying29 rfl (by kernel_rfl) ?_) | (refine wpList_load_blk 29 (.tmp 8) rfl rfl (HA9.out.alloc _) rfl _ Tryz.underlying29 rfl (by kernel_rfl) ?_) | (refine wpList_load_blk 29 (.tmp 8) rfl rfl ((HA9.out.alloc _).alloc _) rfl _ Tryz.underlying29 rfl (by kernel_rfl) ?_)
            | (refine wpList_store_blk2 29 (.tmp 2) (.tmp 69) rfl rfl HB8.out [.int .i64 x.st.tick, .int .i64 x.st.clock, .int .i64 x.st.site, .int .i64 x.st.seq, .int .i64 x.kind, .int .i64 x.box.lo.x, .int .i64 x.box.lo.y, .int .i64 x.box.lo.z, .int .i64 x.box.hi.x, .int .i64 x.box.hi.y, .int .i64 x.box.hi.z, .int .i64 x.at_.x, .int .i64 x.at_.y, .int .i64 x.at_.z, .int .i64 x.turn, .int .i64 x.cell, .int .i64 x.size] rfl rfl (by kernel_rfl) rfl rfl rfl ?_; intro W9 hW9; have HB9 := Lib.hid (show Arr W9 w.heap.size 29 [.int .i64 x.st.tick, .int .i64 x.st.clock, .int .i64 x.st.site, .int .i64 x.st.seq, .int .i64 x.kind, .int .i64 x.box.lo.x, .int .i64 x.box.lo.y, .int .i64 x.box.lo.z, .int .i64 x.box.hi.x, .int .i64 x.box.hi.y, .int .i64 x.box.hi.z, .int .i64 x.at_.x, .int .i64 x.at_.y, .int .i64 x.at_.z, .int .i64 x.turn, .int .i64 x.cell, .int .i64 x.size] by rw [hW9]; exact HB8.out.setRow _); have HX9 := Lib.hid (show Ext w W9 by rw [hW9]; exact HX8.out.setRow (Nat.le_refl _) _); clear hW9))
          refine bodyPost_ret (v := .tuple #[.agg #[.int .i64 x.st.tick, .int .i64 x.st.clock, .int .i64 x.st.site, .int .i64 x.st.seq, .int .i64 x.kind, .int .i64 x.box.lo.x, .int .i64 x.box.lo.y, .int .i64 x.box.lo.z, .int .i64 x.box.hi.x, .int .i64 x.box.hi.y, .int .i64 x.box.hi.z, .int .i64 x.at_.x, .int .i64 x.at_.y, .int .i64 x.at_.z, .int .i64 x.turn, .int .i64 x.cell, .int .i64 x.size], .int .i64 0]) ?_ rfl ⟨rfl, HX9.out⟩
          exact results_cell_row2 Tryz.results29 _ _ _ _ _ _ _ rfl (HB9.out) Tryz.underlying29 rfl (by kernel_rfl)
end Go.Proofs.YtlinhgannajfpaaGreatDoor

/- The reference's Decode. -/
namespace Go.Proofs.YtlinhgannajfpaaGreatDoor
open Go Go.RowKit

/-- What lies in memory while the reference puts an edit together. -/
structure DecR (x : Ed) (z : List Value) (w : World) (g n7 : Nat) (cs : List Value) (W : World) : Prop where
  B : Arr W w.heap.size 29 z
  A : Arr W n7 29 cs
  Q : ∀ (j : Nat) v, x.cells[j]? = some v → W.cell? ⟨g, j, none⟩ = some v
  X : Ext w W
theorem DecR.ext2 {x : Ed} {z cs : List Value} {w W W' : World} {g n7 : Nat} (h : DecR x z w g n7 cs W) (hx : Ext W W') : DecR x z w g n7 cs W' :=
  ⟨h.B.ext hx, h.A.ext hx, fun j v hv => (hx.cell (p := ⟨g, j, none⟩) (World.block_lt_of_cell? W _ (h.Q j v hv))).trans (h.Q j v hv), h.X.trans hx⟩
theorem DecR.store {x : Ed} {z cs : List Value} {w W : World} {g n7 : Nat} (h : DecR x z w g n7 cs W) (h1 : w.heap.size < n7) (h2 : g < n7) (off : Nat) (vs cnew : List Value) (hc : splice cs off vs = cnew) (hl : off + vs.length ≤ cs.length) : DecR x z w g n7 cnew (W.setCells n7 off vs) :=
  ⟨Arr.setCells_other (by omega) vs off h.B, by rw [← hc]; exact h.A.setCells vs off hl, fun j v hv => by rw [World.cell?_setCells_out n7 vs off W ⟨g, j, none⟩ (fun e => absurd e (by simp only; omega))]; exact h.Q j v hv, Ext.setCells (by omega) vs off h.X⟩
set_option maxHeartbeats 16000000 in
set_option maxRecDepth 100000 in
theorem refDecode_any (b : List UInt8) (hl : b.length ≤ 1000000) (A : Option Addr) (c : Nat) (w : World) (hs : Sv w w.heap.size 1 A c (rowsB b)) :
    Calls Tryz.prog 30 #[.slice A b.length c] w (RetD (decE b) w) := by
  have hm := mixed
  have hG := near_old
  obtain ⟨W0, hW⟩ : ∃ W, W = w.alloc (.cells #[.int .i64 0, .int .i64 0, .int .i64 0, .int .i64 0, .int .i64 0, .int .i64 0, .int .i64 0, .int .i64 0, .int .i64 0, .int .i64 0, .int .i64 0, .int .i64 0, .int .i64 0, .int .i64 0, .int .i64 0, .int .i64 0, .int .i64 0] 29) := ⟨_, rfl⟩
  have HX0 := Lib.hid (show Ext w W0 by rw [hW]; exact (Ext.refl w).alloc _)
  have HB0 := Lib.hid (show Arr W0 w.heap.size 29 [.int .i64 0, .int .i64 0, .int .i64 0, .int .i64 0, .int .i64 0, .int .i64 0, .int .i64 0, .int .i64 0, .int .i64 0, .int .i64 0, .int .i64 0, .int .i64 0, .int .i64 0, .int .i64 0, .int .i64 0, .int .i64 0, .int .i64 0] by rw [hW]; exact Arr.new w _ [.int .i64 0, .int .i64 0, .int .i64 0, .int .i64 0, .int .i64 0, .int .i64 0, .int .i64 0, .int .i64 0, .int .i64 0, .int .i64 0, .int .i64 0, .int .i64 0, .int .i64 0, .int .i64 0, .int .i64 0, .int .i64 0, .int .i64 0])
  have HG := Lib.hid (refGetInts_any b (by omega) A c W0 (hs.ext HX0.out))
  clear hs
  cases hr : getL b with
  | inl er =>
    have HD := Lib.hid (show decE b = (zeroE, eno er) by unfold decE; rw [hr])
    have hq := eno_two er
    have HG2 := Lib.hid (show Calls Tryz.prog 77 #[.slice A b.length c] W0 fun e w' => e = .returned (.tuple #[.slice none 0 0, .int .i64 0, .int .i64 (eno er)]) ∧ Ext W0 w' from HG.out.mono fun e w' h => by unfold RetL at h; rw [hr] at h; exact h)
    obtain ⟨q, hqe⟩ : ∃ q, q = eno er := ⟨_, rfl⟩
    rw [← hqe] at hq HG2
    rw [← hqe] at HD
    rw [HD.out]
    clear hr HG hqe
    rcases hq with rfl | rfl
    all_goals
      go_enter Tryz.func30, Tryz.ntmps30
      go_upto_region 1 with fail
      rw [← hW]
      clear hW
      go_upto_region 2 with (go_at_call 77; refine HG2.out.mono ?_; rintro e W1 ⟨rfl, hx1⟩; have HX2 := Lib.hid (HX0.out.trans hx1); have HB2 := Lib.hid (HB0.out.ext hx1); clear hx1)
      go_wp2_with (refine wpList_store_blk2 29 (.tmp 2) (.tmp 17) rfl rfl HB2.out [.int .i64 0, .int .i64 0, .int .i64 0, .int .i64 0, .int .i64 0, .int .i64 0, .int .i64 0, .int .i64 0, .int .i64 0, .int .i64 0, .int .i64 0, .int .i64 0, .int .i64 0, .int .i64 0, .int .i64 0, .int .i64 0, .int .i64 0] rfl rfl (by kernel_rfl) rfl rfl rfl ?_; intro W9 hW9; have HB9 := Lib.hid (show Arr W9 w.heap.size 29 [.int .i64 0, .int .i64 0, .int .i64 0, .int .i64 0, .int .i64 0, .int .i64 0, .int .i64 0, .int .i64 0, .int .i64 0, .int .i64 0, .int .i64 0, .int .i64 0, .int .i64 0, .int .i64 0, .int .i64 0, .int .i64 0, .int .i64 0] by rw [hW9]; exact HB2.out.setRow _); have HX9 := Lib.hid (show Ext w W9 by rw [hW9]; exact HX2.out.setRow (Nat.le_refl _) _); clear hW9)
      refine bodyPost_ret (v := .tuple #[.agg #[.int .i64 zeroE.st.tick, .int .i64 zeroE.st.clock, .int .i64 zeroE.st.site, .int .i64 zeroE.st.seq, .int .i64 zeroE.kind, .int .i64 zeroE.box.lo.x, .int .i64 zeroE.box.lo.y, .int .i64 zeroE.box.lo.z, .int .i64 zeroE.box.hi.x, .int .i64 zeroE.box.hi.y, .int .i64 zeroE.box.hi.z, .int .i64 zeroE.at_.x, .int .i64 zeroE.at_.y, .int .i64 zeroE.at_.z, .int .i64 zeroE.turn, .int .i64 zeroE.cell, .int .i64 zeroE.size], .int .i64 _]) ?_ rfl ⟨rfl, HX9.out⟩
      exact results_cell_row2 Tryz.results30 _ _ _ _ _ _ _ rfl (HB9.out) Tryz.underlying29 rfl (by kernel_rfl)
  | inr lk =>
    obtain ⟨l, k⟩ := lk
    have HG2 := Lib.hid (show Calls Tryz.prog 77 #[.slice A b.length c] W0 fun e w' => ∃ A c, e = .returned (.tuple #[.slice A l.length c, .int .i64 (k : Int), .int .i64 0]) ∧ w'.ownsRow W0.heap.size 3 1 (.slice A l.length c) l.length (rowsI l).flatten ∧ Ext W0 w' from HG.out.mono fun e w' h => by unfold RetL at h; rw [hr] at h; exact h)
    have hkb := (getL_back hr).1
    have HLK := Lib.hid hr
    clear HG
    by_cases hbad : k ≠ b.length ∨ l.length ≠ 17
    · have HD := Lib.hid (show decE b = (zeroE, 6) by unfold decE; rw [hr]; simp only; rw [if_pos hbad])
      rw [HD.out]
      clear hr
      have hll : l.length ≤ 1000000000 := by
        obtain ⟨_, h2, _⟩ := getL_back HLK.out
        have h3 := congrArg List.length h2
        have h4 := flat_len_ge l
        unfold encL at h3
        rw [List.length_take, List.length_append] at h3
        omega
      rcases (show k ≠ b.length ∨ (k = b.length ∧ l.length ≠ 17) by omega) with h1 | ⟨h1, h2⟩
      · have hkn : ((k : Int) != (b.length : Int)) = true := bne_iff_ne.2 (by omega)
        clear hbad
        go_enter Tryz.func30, Tryz.ntmps30
        go_upto_region 1 with fail
        rw [← hW]
        clear hW
        go_upto_region 2 with (go_at_call 77; refine HG2.out.mono ?_; rintro e W1 ⟨A1, c1, rfl, ho1, hx1⟩; have HX2 := Lib.hid (HX0.out.trans hx1); have HB2 := Lib.hid (HB0.out.ext hx1); clear ho1 hx1)
        go_wp2_with (refine wpList_store_blk2 29 (.tmp 2) (.tmp 28) rfl rfl HB2.out [.int .i64 0, .int .i64 0, .int .i64 0, .int .i64 0, .int .i64 0, .int .i64 0, .int .i64 0, .int .i64 0, .int .i64 0, .int .i64 0, .int .i64 0, .int .i64 0, .int .i64 0, .int .i64 0, .int .i64 0, .int .i64 0, .int .i64 0] rfl rfl (by kernel_rfl) rfl rfl rfl ?_; intro W9 hW9; have HB9 := Lib.hid (show Arr W9 w.heap.size 29 [.int .i64 0, .int .i64 0, .int .i64 0, .int .i64 0, .int .i64 0, .int .i64 0, .int .i64 0, .int .i64 0, .int .i64 0, .int .i64 0, .int .i64 0, .int .i64 0, .int .i64 0, .int .i64 0, .int .i64 0, .int .i64 0, .int .i64 0] by rw [hW9]; exact HB2.out.setRow _); have HX9 := Lib.hid (show Ext w W9 by rw [hW9]; exact HX2.out.setRow (Nat.le_refl _) _); clear hW9)
        all_goals
          refine bodyPost_ret (v := .tuple #[.agg #[.int .i64 zeroE.st.tick, .int .i64 zeroE.st.clock, .int .i64 zeroE.st.site, .int .i64 zeroE.st.seq, .int .i64 zeroE.kind, .int .i64 zeroE.box.lo.x, .int .i64 zeroE.box.lo.y, .int .i64 zeroE.box.lo.z, .int .i64 zeroE.box.hi.x, .int .i64 zeroE.box.hi.y, .int .i64 zeroE.box.hi.z, .int .i64 zeroE.at_.x, .int .i64 zeroE.at_.y, .int .i64 zeroE.at_.z, .int .i64 zeroE.turn, .int .i64 zeroE.cell, .int .i64 zeroE.size], .int .i64 6]) ?_ rfl ⟨rfl, HX9.out⟩
          exact results_cell_row2 Tryz.results30 _ _ _ _ _ _ _ rfl (HB9.out) Tryz.underlying29 rfl (by kernel_rfl)
      · have hkn : ((k : Int) != (b.length : Int)) = false := bne_eq_false_iff_eq.2 (by omega)
        have hln : ((l.length : Int) != 17) = true := bne_iff_ne.2 (by omega)
        clear hbad
        go_enter Tryz.func30, Tryz.ntmps30
        go_upto_region 1 with fail
        rw [← hW]
        clear hW
        go_upto_region 2 with (go_at_call 77; refine HG2.out.mono ?_; rintro e W1 ⟨A1, c1, rfl, ho1, hx1⟩; have HX2 := Lib.hid (HX0.out.trans hx1); have HB2 := Lib.hid (HB0.out.ext hx1); clear ho1 hx1)
        go_wp2_with (refine wpList_store_blk2 29 (.tmp 2) (.tmp 28) rfl rfl HB2.out [.int .i64 0, .int .i64 0, .int .i64 0, .int .i64 0, .int .i64 0, .int .i64 0, .int .i64 0, .int .i64 0, .int .i64 0, .int .i64 0, .int .i64 0, .int .i64 0, .int .i64 0, .int .i64 0, .int .i64 0, .int .i64 0, .int .i64 0] rfl rfl (by kernel_rfl) rfl rfl rfl ?_; intro W9 hW9; have HB9 := Lib.hid (show Arr W9 w.heap.size 29 [.int .i64 0, .int .i64 0, .int .i64 0, .int .i64 0, .int .i64 0, .int .i64 0, .int .i64 0, .int .i64 0, .int .i64 0, .int .i64 0, .int .i64 0, .int .i64 0, .int .i64 0, .int .i64 0, .int .i64 0, .int .i64 0, .int .i64 0] by rw [hW9]; exact HB2.out.setRow _); have HX9 := Lib.hid (show Ext w W9 by rw [hW9]; exact HX2.out.setRow (Nat.le_refl _) _); clear hW9)
        all_goals
          refine bodyPost_ret (v := .tuple #[.agg #[.int .i64 zeroE.st.tick, .int .i64 zeroE.st.clock, .int .i64 zeroE.st.site, .int .i64 zeroE.st.seq, .int .i64 zeroE.kind, .int .i64 zeroE.box.lo.x, .int .i64 zeroE.box.lo.y, .int .i64 zeroE.box.lo.z, .int .i64 zeroE.box.hi.x, .int .i64 zeroE.box.hi.y, .int .i64 zeroE.box.hi.z, .int .i64 zeroE.at_.x, .int .i64 zeroE.at_.y, .int .i64 zeroE.at_.z, .int .i64 zeroE.turn, .int .i64 zeroE.cell, .int .i64 zeroE.size], .int .i64 6]) ?_ rfl ⟨rfl, HX9.out⟩
          exact results_cell_row2 Tryz.results30 _ _ _ _ _ _ _ rfl (HB9.out) Tryz.underlying29 rfl (by kernel_rfl)
    · obtain ⟨rfl, hl17⟩ : k = b.length ∧ l.length = 17 := by omega
      obtain ⟨x, hx⟩ : ∃ x, x = edOf l := ⟨_, rfl⟩
      have hnx : numsE x = l := by rw [hx]; exact numsE_edOf hl17
      have HD := Lib.hid (show decE b = if formedE x then (x, 0) else (zeroE, 1) by unfold decE; rw [hr]; simp only; rw [if_neg hbad, hx])
      rw [HD.out]
      rw [← hnx] at HG2
      clear hr hbad hx hl17 HD hnx HLK
      have HG3 := Lib.hid (show Calls Tryz.prog 77 #[.slice A b.length c] W0 fun e w' => ∃ A c, e = .returned (.tuple #[.slice A 17 c, .int .i64 (b.length : Int), .int .i64 0]) ∧ w'.ownsRow W0.heap.size 3 1 (.slice A 17 c) 17 (rowsI (numsE x)).flatten ∧ Ext W0 w' from HG2.out)
      clear HG2
      go_enter Tryz.func30, Tryz.ntmps30
      go_upto_region 1 with fail
      rw [← hW]
      clear hW
      go_upto_region 2 with (go_at_call 77; refine HG3.out.mono ?_; rintro e W2 ⟨A1, c1, rfl, ho1, hx1⟩; have HX2 := Lib.hid (HX0.out.trans hx1); have HB2 := Lib.hid (HB0.out.ext hx1); have HO1 := Lib.hid ho1; clear ho1 hx1)
      have hn0 := HB2.out.lt
      obtain ⟨g, hA1, hcell, hgl, hc17⟩ : ∃ g, A1 = some ⟨g, 0, none⟩ ∧ (∀ (j : Nat) v, x.cells[j]? = some v → W2.cell? ⟨g, j, none⟩ = some v) ∧ g < W2.heap.size ∧ 17 ≤ c1 := by
        rcases HO1.out.2 with ⟨h1, h2⟩ | ⟨g, cap, cur, h1, hbg, hg, hnc, hcm, hcs, htake⟩
        · omega
        · injection h1 with h1 h2 h3
          subst h3
          refine ⟨g, h1, fun j v hv => ?_, (Array.getElem?_eq_some_iff.1 hg).1, hnc⟩
          rw [cell_of_row _ _ _ _ _ _ hg]
          have hj : j < 17 := (List.getElem?_eq_some_iff.1 hv).1
          have h5 : (cur.toList.take (17 * 1))[j]? = some v := by rw [htake]; exact hv
          rw [List.getElem?_take, if_pos (by omega)] at h5
          simpa using h5
      subst hA1
      have HGL := Lib.hid hgl
      have QC := Lib.hid (fun (w1 : World) (hx : Ext W2 w1) (j : Nat) v (hv : x.cells[j]? = some v) => (hx.cell (p := ⟨g, j, none⟩) HGL.out).trans (hcell j v hv))
      clear hcell HO1
      have e17 : ((b.length : Int) != (b.length : Int)) = false := bne_eq_false_iff_eq.2 rfl
      go_upto_region 6 with fail
      clear e17
      refine wp_region_box2 (w := W2) (fun i => match i with | 0 => .slice (some ⟨g, 0, none⟩) 17 c1 | 1 => .pointer (some ⟨g, 4, none⟩) | 2 => .int .i64 x.kind | 3 => .slice (some ⟨g, 0, none⟩) 17 c1 | 4 => .pointer (some ⟨g, 14, none⟩) | 5 => .int .i64 x.turn | 6 => .slice (some ⟨g, 0, none⟩) 17 c1 | 7 => .pointer (some ⟨g, 15, none⟩) | 8 => .int .i64 x.cell | 9 => .slice (some ⟨g, 0, none⟩) 17 c1 | 10 => .pointer (some ⟨g, 16, none⟩) | 11 => .int .i64 x.size | 12 => .agg #[.int .i64 0, .int .i64 0, .int .i64 0, .int .i64 0, .int .i64 x.kind, .int .i64 0, .int .i64 0, .int .i64 0, .int .i64 0, .int .i64 0, .int .i64 0, .int .i64 0, .int .i64 0, .int .i64 0, .int .i64 x.turn, .int .i64 x.cell, .int .i64 x.size] | _ => undef) 13 29 7 41 12 [.int .i64 0, .int .i64 0, .int .i64 0, .int .i64 0, .int .i64 0, .int .i64 0, .int .i64 0, .int .i64 0, .int .i64 0, .int .i64 0, .int .i64 0, .int .i64 0, .int .i64 0, .int .i64 0, .int .i64 0, .int .i64 0, .int .i64 0] [.int .i64 0, .int .i64 0, .int .i64 0, .int .i64 0, .int .i64 x.kind, .int .i64 0, .int .i64 0, .int .i64 0, .int .i64 0, .int .i64 0, .int .i64 0, .int .i64 0, .int .i64 0, .int .i64 0, .int .i64 x.turn, .int .i64 x.cell, .int .i64 x.size] hm (by kernel_rfl) (by kernel_rfl) (noGuardD (by kernel_rfl)) rfl ⟨_, rfl, rfl, rfl⟩ ⟨_, rfl, rfl, rfl, ⟨⟨13, .data⟩, by simp, rfl, rfl⟩, ⟨⟨12, .data⟩, by simp, rfl, rfl⟩⟩ (by decide) rfl (by simp) (by simp) rfl infoE1 (by kernel_rfl) rfl rfl ?_ ?_
      · intro listed w1 i o ho hin hdep hx b K E0 E1 hK
        match i, ho with
        | 0, ho =>
          obtain rfl := Option.some.inj ho
          have e := E0 4 (by kernel_rfl)
          simp only [List.getElem?_toArray, List.getElem?_cons_zero, List.getElem?_cons_succ] at e
          exact op_move rfl (eval_of e) (hK w1 (Ext.refl _))
        | 1, ho =>
          obtain rfl := Option.some.inj ho
          have e0 := E1 0 29 (by decide) (getD_up (hdep ⟨0, .data⟩ (by simp) rfl)) rfl (by simp)
          exact op_run (v := .pointer (some ⟨g, 4, none⟩)) (w2 := w1) (by unfold execOp; simp [e0, Act.eval, go_sem]) (hK w1 (Ext.refl _))
        | 2, ho =>
          obtain rfl := Option.some.inj ho
          have e1 := E1 1 30 (by decide) (getD_up (hdep ⟨1, .data⟩ (by simp) rfl)) rfl (by simp)
          exact op_run (v := .int .i64 x.kind) (w2 := w1) (by unfold execOp; simp [e1, Act.eval, go_sem, QC.out w1 hx 4 (.int .i64 x.kind) rfl]) (hK w1 (Ext.refl _))
        | 3, ho =>
          obtain rfl := Option.some.inj ho
          have e := E0 4 (by kernel_rfl)
          simp only [List.getElem?_toArray, List.getElem?_cons_zero, List.getElem?_cons_succ] at e
          exact op_move rfl (eval_of e) (hK w1 (Ext.refl _))
        | 4, ho =>
          obtain rfl := Option.some.inj ho
          have e3 := E1 3 32 (by decide) (getD_up (hdep ⟨3, .data⟩ (by simp) rfl)) rfl (by simp)
          exact op_run (v := .pointer (some ⟨g, 14, none⟩)) (w2 := w1) (by unfold execOp; simp [e3, Act.eval, go_sem]) (hK w1 (Ext.refl _))
        | 5, ho =>
          obtain rfl := Option.some.inj ho
          have e4 := E1 4 33 (by decide) (getD_up (hdep ⟨4, .data⟩ (by simp) rfl)) rfl (by simp)
          exact op_run (v := .int .i64 x.turn) (w2 := w1) (by unfold execOp; simp [e4, Act.eval, go_sem, QC.out w1 hx 14 (.int .i64 x.turn) rfl]) (hK w1 (Ext.refl _))
        | 6, ho =>
          obtain rfl := Option.some.inj ho
          have e := E0 4 (by kernel_rfl)
          simp only [List.getElem?_toArray, List.getElem?_cons_zero, List.getElem?_cons_succ] at e
          exact op_move rfl (eval_of e) (hK w1 (Ext.refl _))
        | 7, ho =>
          obtain rfl := Option.some.inj ho
          have e6 := E1 6 35 (by decide) (getD_up (hdep ⟨6, .data⟩ (by simp) rfl)) rfl (by simp)
          exact op_run (v := .pointer (some ⟨g, 15, none⟩)) (w2 := w1) (by unfold execOp; simp [e6, Act.eval, go_sem]) (hK w1 (Ext.refl _))
        | 8, ho =>
          obtain rfl := Option.some.inj ho
          have e7 := E1 7 36 (by decide) (getD_up (hdep ⟨7, .data⟩ (by simp) rfl)) rfl (by simp)
          exact op_run (v := .int .i64 x.cell) (w2 := w1) (by unfold execOp; simp [e7, Act.eval, go_sem, QC.out w1 hx 15 (.int .i64 x.cell) rfl]) (hK w1 (Ext.refl _))
        | 9, ho =>
          obtain rfl := Option.some.inj ho
          have e := E0 4 (by kernel_rfl)
          simp only [List.getElem?_toArray, List.getElem?_cons_zero, List.getElem?_cons_succ] at e
          exact op_move rfl (eval_of e) (hK w1 (Ext.refl _))
        | 10, ho =>
          obtain rfl := Option.some.inj ho
          have e9 := E1 9 38 (by decide) (getD_up (hdep ⟨9, .data⟩ (by simp) rfl)) rfl (by simp)
          exact op_run (v := .pointer (some ⟨g, 16, none⟩)) (w2 := w1) (by unfold execOp; simp [e9, Act.eval, go_sem]) (hK w1 (Ext.refl _))
        | 11, ho =>
          obtain rfl := Option.some.inj ho
          have e10 := E1 10 39 (by decide) (getD_up (hdep ⟨10, .data⟩ (by simp) rfl)) rfl (by simp)
          exact op_run (v := .int .i64 x.size) (w2 := w1) (by unfold execOp; simp [e10, Act.eval, go_sem, QC.out w1 hx 16 (.int .i64 x.size) rfl]) (hK w1 (Ext.refl _))
        | 12, ho =>
          obtain rfl := Option.some.inj ho
          have e2 := E1 2 31 (by decide) (getD_up (hdep ⟨2, .data⟩ (by simp) rfl)) rfl (by simp)
          have e5 := E1 5 34 (by decide) (getD_up (hdep ⟨5, .data⟩ (by simp) rfl)) rfl (by simp)
          have e8 := E1 8 37 (by decide) (getD_up (hdep ⟨8, .data⟩ (by simp) rfl)) rfl (by simp)
          have e11 := E1 11 40 (by decide) (getD_up (hdep ⟨11, .data⟩ (by simp) rfl)) rfl (by simp)
          exact op_run (v := .agg #[.int .i64 0, .int .i64 0, .int .i64 0, .int .i64 0, .int .i64 x.kind, .int .i64 0, .int .i64 0, .int .i64 0, .int .i64 0, .int .i64 0, .int .i64 0, .int .i64 0, .int .i64 0, .int .i64 0, .int .i64 x.turn, .int .i64 x.cell, .int .i64 x.size]) (w2 := w1) (by unfold execOp; simp [e2, e5, e8, e11, Act.eval, go_sem]) (hK w1 (Ext.refl _))
        | i + 13, ho => omega
      · intro n7 W3 hx hn7 A7
        simp only [List.length_cons, List.length_nil, fillAllN, dstOf, Act.put, List.getElem?_toArray, List.getElem?_cons_zero, List.getElem?_cons_succ, Option.bind_some, List.setIfInBounds_toArray, List.set_cons_zero, List.set_cons_succ, boxV, Nat.lt_irrefl, if_false, if_true, Nat.reduceLT, Nat.reduceEqDiff, Nat.reduceAdd]
        have hgn : g < n7 := Nat.lt_of_lt_of_le hgl hn7
        have hnn : w.heap.size < n7 := Nat.lt_of_lt_of_le hn0 hn7
        have HD3 := Lib.hid (DecR.mk (HB2.out.ext hx) A7 (fun j v hv => QC.out W3 hx j v hv) (HX2.out.trans hx) : DecR x [.int .i64 0, .int .i64 0, .int .i64 0, .int .i64 0, .int .i64 0, .int .i64 0, .int .i64 0, .int .i64 0, .int .i64 0, .int .i64 0, .int .i64 0, .int .i64 0, .int .i64 0, .int .i64 0, .int .i64 0, .int .i64 0, .int .i64 0] w g n7 [.int .i64 0, .int .i64 0, .int .i64 0, .int .i64 0, .int .i64 x.kind, .int .i64 0, .int .i64 0, .int .i64 0, .int .i64 0, .int .i64 0, .int .i64 0, .int .i64 0, .int .i64 0, .int .i64 0, .int .i64 x.turn, .int .i64 x.cell, .int .i64 x.size] W3)
        clear hx hn7 A7 QC HB2 HX2 hgl hn0
        have q0 := HD3.out.Q 0 _ rfl
        have q1 := HD3.out.Q 1 _ rfl
        have q2 := HD3.out.Q 2 _ rfl
        have q3 := HD3.out.Q 3 _ rfl
        have lg := World.block_lt_of_cell? _ _ q0
        go_upto_region 7 with fail
        refine wp_region_near_tail 14 (by assumption) (by kernel_rfl) ?_
        simp only [List.take_succ_cons, List.take_zero, List.drop_succ_cons, List.drop_zero]
        repeat (go_big_quiet_step (fail))
        refine wpQuiet_nil ?_
        intro w1 hw1
        have hy := Ext.of_near hw1
        clear hw1
        have HD3a := Lib.hid (HD3.out.ext2 hy)
        clear hy lg HD3 q0 q1 q2 q3
        go_upto_region 8 with
         (refine wpList_store_part 23 (.tmp 55) (.tmp 54) rfl rfl rfl HD3a.out.A 0 [.int .i64 x.st.tick, .int .i64 x.st.clock, .int .i64 x.st.site, .int .i64 x.st.seq] rfl rfl (by simp) (by kernel_rfl) rfl ?_; intro W4 hW4;
          have HD4 := Lib.hid (show DecR x [.int .i64 0, .int .i64 0, .int .i64 0, .int .i64 0, .int .i64 0, .int .i64 0, .int .i64 0, .int .i64 0, .int .i64 0, .int .i64 0, .int .i64 0, .int .i64 0, .int .i64 0, .int .i64 0, .int .i64 0, .int .i64 0, .int .i64 0] w g n7 [.int .i64 x.st.tick, .int .i64 x.st.clock, .int .i64 x.st.site, .int .i64 x.st.seq, .int .i64 x.kind, .int .i64 0, .int .i64 0, .int .i64 0, .int .i64 0, .int .i64 0, .int .i64 0, .int .i64 0, .int .i64 0, .int .i64 0, .int .i64 x.turn, .int .i64 x.cell, .int .i64 x.size] W4 by rw [hW4]; exact HD3a.out.store hnn hgn 0 [.int .i64 x.st.tick, .int .i64 x.st.clock, .int .i64 x.st.site, .int .i64 x.st.seq] [.int .i64 x.st.tick, .int .i64 x.st.clock, .int .i64 x.st.site, .int .i64 x.st.seq, .int .i64 x.kind, .int .i64 0, .int .i64 0, .int .i64 0, .int .i64 0, .int .i64 0, .int .i64 0, .int .i64 0, .int .i64 0, .int .i64 0, .int .i64 x.turn, .int .i64 x.cell, .int .i64 x.size] rfl (by simp));
          clear hW4)
        clear HD3a
        have q5 := HD4.out.Q 5 _ rfl
        have q6 := HD4.out.Q 6 _ rfl
        have q7 := HD4.out.Q 7 _ rfl
        have q8 := HD4.out.Q 8 _ rfl
        have q9 := HD4.out.Q 9 _ rfl
        have q10 := HD4.out.Q 10 _ rfl
        have lg := World.block_lt_of_cell? _ _ q5
        go_upto_region 8 with fail
        refine wp_region_near_tail 22 (by assumption) (by kernel_rfl) ?_
        simp only [List.take_succ_cons, List.take_zero, List.drop_succ_cons, List.drop_zero]
        repeat (go_big_quiet_step (fail))
        refine wpQuiet_nil ?_
        intro w1 hw1
        have hy := Ext.of_near hw1
        clear hw1
        have HD4a := Lib.hid (HD4.out.ext2 hy)
        clear hy lg HD4 q5 q6 q7 q8 q9 q10
        go_upto_region 9 with
         (refine wpList_store_part 27 (.tmp 77) (.tmp 76) rfl rfl rfl HD4a.out.A 5 [.int .i64 x.box.lo.x, .int .i64 x.box.lo.y, .int .i64 x.box.lo.z, .int .i64 x.box.hi.x, .int .i64 x.box.hi.y, .int .i64 x.box.hi.z] rfl rfl (by simp) (by kernel_rfl) rfl ?_; intro W5 hW5;
          have HD5 := Lib.hid (show DecR x [.int .i64 0, .int .i64 0, .int .i64 0, .int .i64 0, .int .i64 0, .int .i64 0, .int .i64 0, .int .i64 0, .int .i64 0, .int .i64 0, .int .i64 0, .int .i64 0, .int .i64 0, .int .i64 0, .int .i64 0, .int .i64 0, .int .i64 0] w g n7 [.int .i64 x.st.tick, .int .i64 x.st.clock, .int .i64 x.st.site, .int .i64 x.st.seq, .int .i64 x.kind, .int .i64 x.box.lo.x, .int .i64 x.box.lo.y, .int .i64 x.box.lo.z, .int .i64 x.box.hi.x, .int .i64 x.box.hi.y, .int .i64 x.box.hi.z, .int .i64 0, .int .i64 0, .int .i64 0, .int .i64 x.turn, .int .i64 x.cell, .int .i64 x.size] W5 by rw [hW5]; exact HD4a.out.store hnn hgn 5 [.int .i64 x.box.lo.x, .int .i64 x.box.lo.y, .int .i64 x.box.lo.z, .int .i64 x.box.hi.x, .int .i64 x.box.hi.y, .int .i64 x.box.hi.z] [.int .i64 x.st.tick, .int .i64 x.st.clock, .int .i64 x.st.site, .int .i64 x.st.seq, .int .i64 x.kind, .int .i64 x.box.lo.x, .int .i64 x.box.lo.y, .int .i64 x.box.lo.z, .int .i64 x.box.hi.x, .int .i64 x.box.hi.y, .int .i64 x.box.hi.z, .int .i64 0, .int .i64 0, .int .i64 0, .int .i64 x.turn, .int .i64 x.cell, .int .i64 x.size] rfl (by simp));
          clear hW5)
        clear HD4a
        have q11 := HD5.out.Q 11 _ rfl
        have q12 := HD5.out.Q 12 _ rfl
        have q13 := HD5.out.Q 13 _ rfl
        have lg := World.block_lt_of_cell? _ _ q11
        go_upto_region 9 with fail
        refine wp_region_near_tail 11 (by assumption) (by kernel_rfl) ?_
        simp only [List.take_succ_cons, List.take_zero, List.drop_succ_cons, List.drop_zero]
        repeat (go_big_quiet_step (fail))
        refine wpQuiet_nil ?_
        intro w1 hw1
        have hy := Ext.of_near hw1
        clear hw1
        have HD5a := Lib.hid (HD5.out.ext2 hy)
        clear hy lg HD5 q11 q12 q13
        go_upto_region 10 with
         (refine wpList_store_part 25 (.tmp 88) (.tmp 87) rfl rfl rfl HD5a.out.A 11 [.int .i64 x.at_.x, .int .i64 x.at_.y, .int .i64 x.at_.z] rfl rfl (by simp) (by kernel_rfl) rfl ?_; intro W6 hW6;
          have HD6 := Lib.hid (show DecR x [.int .i64 0, .int .i64 0, .int .i64 0, .int .i64 0, .int .i64 0, .int .i64 0, .int .i64 0, .int .i64 0, .int .i64 0, .int .i64 0, .int .i64 0, .int .i64 0, .int .i64 0, .int .i64 0, .int .i64 0, .int .i64 0, .int .i64 0] w g n7 [.int .i64 x.st.tick, .int .i64 x.st.clock, .int .i64 x.st.site, .int .i64 x.st.seq, .int .i64 x.kind, .int .i64 x.box.lo.x, .int .i64 x.box.lo.y, .int .i64 x.box.lo.z, .int .i64 x.box.hi.x, .int .i64 x.box.hi.y, .int .i64 x.box.hi.z, .int .i64 x.at_.x, .int .i64 x.at_.y, .int .i64 x.at_.z, .int .i64 x.turn, .int .i64 x.cell, .int .i64 x.size] W6 by rw [hW6]; exact HD5a.out.store hnn hgn 11 [.int .i64 x.at_.x, .int .i64 x.at_.y, .int .i64 x.at_.z] [.int .i64 x.st.tick, .int .i64 x.st.clock, .int .i64 x.st.site, .int .i64 x.st.seq, .int .i64 x.kind, .int .i64 x.box.lo.x, .int .i64 x.box.lo.y, .int .i64 x.box.lo.z, .int .i64 x.box.hi.x, .int .i64 x.box.hi.y, .int .i64 x.box.hi.z, .int .i64 x.at_.x, .int .i64 x.at_.y, .int .i64 x.at_.z, .int .i64 x.turn, .int .i64 x.cell, .int .i64 x.size] rfl (by simp));
          clear hW6)
        clear HD5a
        have HF := Lib.hid (refFormed_any x W6)
        have HA7 := Lib.hid HD6.out.A
        cases hf : formedE x
        · rw [hf] at HF
          rw [if_neg (by simp)]
          go_upto_region 12 with (first
            | (refine wpList_load_blk 29 (.tmp 7) rfl rfl HA7.out rfl _ Tryz.underlying29 rfl (by kernel_rfl) ?_) | (refine wpList_load_blk 29 (.tmp 7) rfl rfl (HA7.out.alloc _) rfl _ Tryz.underlying29 rfl (by kernel_rfl) ?_) | (refine wpList_load_blk 29 (.tmp 7) rfl rfl ((HA7.out.alloc _).alloc _) rfl _ Tryz.underlying29 rfl (by kernel_rfl) ?_)
            | (go_at_call 14; refine HF.out.mono ?_; rintro e w2 ⟨rfl, hx2⟩; have HB2 := Lib.hid (HD6.out.B.ext hx2); have HX2 := Lib.hid (HD6.out.X.trans hx2); clear hx2))
          go_wp2_with (refine wpList_store_blk2 29 (.tmp 2) (.tmp 93) rfl rfl HB2.out [.int .i64 0, .int .i64 0, .int .i64 0, .int .i64 0, .int .i64 0, .int .i64 0, .int .i64 0, .int .i64 0, .int .i64 0, .int .i64 0, .int .i64 0, .int .i64 0, .int .i64 0, .int .i64 0, .int .i64 0, .int .i64 0, .int .i64 0] rfl rfl (by kernel_rfl) rfl rfl rfl ?_; intro W9 hW9; have HB9 := Lib.hid (show Arr W9 w.heap.size 29 [.int .i64 0, .int .i64 0, .int .i64 0, .int .i64 0, .int .i64 0, .int .i64 0, .int .i64 0, .int .i64 0, .int .i64 0, .int .i64 0, .int .i64 0, .int .i64 0, .int .i64 0, .int .i64 0, .int .i64 0, .int .i64 0, .int .i64 0] by rw [hW9]; exact HB2.out.setRow _); have HX9 := Lib.hid (show Ext w W9 by rw [hW9]; exact HX2.out.setRow (Nat.le_refl _) _); clear hW9)
          all_goals
            refine bodyPost_ret (v := .tuple #[.agg #[.int .i64 zeroE.st.tick, .int .i64 zeroE.st.clock, .int .i64 zeroE.st.site, .int .i64 zeroE.st.seq, .int .i64 zeroE.kind, .int .i64 zeroE.box.lo.x, .int .i64 zeroE.box.lo.y, .int .i64 zeroE.box.lo.z, .int .i64 zeroE.box.hi.x, .int .i64 zeroE.box.hi.y, .int .i64 zeroE.box.hi.z, .int .i64 zeroE.at_.x, .int .i64 zeroE.at_.y, .int .i64 zeroE.at_.z, .int .i64 zeroE.turn, .int .i64 zeroE.cell, .int .i64 zeroE.size], .int .i64 1]) ?_ rfl ⟨rfl, HX9.out⟩
            exact results_cell_row2 Tryz.results30 _ _ _ _ _ _ _ rfl (HB9.out) Tryz.underlying29 rfl (by kernel_rfl)
        · rw [hf] at HF
          rw [if_pos rfl]
          go_upto_region 13 with (first
            | (refine wpList_load_blk 29 (.tmp 7) rfl rfl HA7.out rfl _ Tryz.underlying29 rfl (by kernel_rfl) ?_) | (refine wpList_load_blk 29 (.tmp 7) rfl rfl (HA7.out.alloc _) rfl _ Tryz.underlying29 rfl (by kernel_rfl) ?_) | (refine wpList_load_blk 29 (.tmp 7) rfl rfl ((HA7.out.alloc _).alloc _) rfl _ Tryz.underlying29 rfl (by kernel_rfl) ?_)
            | (go_at_call 14; refine HF.out.mono ?_; rintro e w2 ⟨rfl, hx2⟩; have HB2 := Lib.hid (HD6.out.B.ext hx2); have HX2 := Lib.hid (HD6.out.X.trans hx2); have HA9 := Lib.hid (HA7.out.ext hx2); clear hx2))
          go_wp2_with (first
            | (refine wpList_load_blk 29 (.tmp 7) rfl rfl HA9.out rfl _ Tryz.underlying29 rfl (by kernel_rfl) ?_) | (refine wpList_load_blk 29 (.tmp 7) rfl rfl (HA9.out.alloc _) rfl _ Tryz.underlying29 rfl (by kernel_rfl) ?_) | (refine wpList_load_blk 29 (.tmp 7) rfl rfl ((HA9.out.alloc _).alloc _) rfl _ Tryz.underlying29 rfl (by kernel_rfl) ?_)
            | (refine wpList_store_blk2 29 (.tmp 2) (.tmp 94) rfl rfl HB2.out [.int .i64 x.st.tick, .int .i64 x.st.clock, .int .i64 x.st.site, .int .i64 x.st.seq, .int .i64 x.kind, .int .i64 x.box.lo.x, .int .i64 x.box.lo.y, .int .i64 x.box.lo.z, .int .i64 x.box.hi.x, .int .i64 x.box.hi.y, .int .i64 x.box.hi.z, .int .i64 x.at_.x, .int .i64 x.at_.y, .int .i64 x.at_.z, .int .i64 x.turn, .int .i64 x.cell, .int .i64 x.size] rfl rfl (by kernel_rfl) rfl rfl rfl ?_; intro W9 hW9; have HB9 := Lib.hid (show Arr W9 w.heap.size 29 [.int .i64 x.st.tick, .int .i64 x.st.clock, .int .i64 x.st.site, .int .i64 x.st.seq, .int .i64 x.kind, .int .i64 x.box.lo.x, .int .i64 x.box.lo.y, .int .i64 x.box.lo.z, .int .i64 x.box.hi.x, .int .i64 x.box.hi.y, .int .i64 x.box.hi.z, .int .i64 x.at_.x, .int .i64 x.at_.y, .int .i64 x.at_.z, .int .i64 x.turn, .int .i64 x.cell, .int .i64 x.size] by rw [hW9]; exact HB2.out.setRow _); have HX9 := Lib.hid (show Ext w W9 by rw [hW9]; exact HX2.out.setRow (Nat.le_refl _) _); clear hW9))
          all_goals
            refine bodyPost_ret (v := .tuple #[.agg #[.int .i64 x.st.tick, .int .i64 x.st.clock, .int .i64 x.st.site, .int .i64 x.st.seq, .int .i64 x.kind, .int .i64 x.box.lo.x, .int .i64 x.box.lo.y, .int .i64 x.box.lo.z, .int .i64 x.box.hi.x, .int .i64 x.box.hi.y, .int .i64 x.box.hi.z, .int .i64 x.at_.x, .int .i64 x.at_.y, .int .i64 x.at_.z, .int .i64 x.turn, .int .i64 x.cell, .int .i64 x.size], .int .i64 0]) ?_ rfl ⟨rfl, HX9.out⟩
            exact results_cell_row2 Tryz.results30 _ _ _ _ _ _ _ rfl (HB9.out) Tryz.underlying29 rfl (by kernel_rfl)
end Go.Proofs.YtlinhgannajfpaaGreatDoor

/- brush.BallBox and what it calls; ball, undo of the law. -/
namespace Go.Proofs.YtlinhgannajfpaaGreatDoor
open Go Go.RowKit

set_option maxHeartbeats 4000000 in
theorem isSizeB_any (n : Int) (w : World) : Calls Tryz.prog 89 #[.int .i64 n] w fun e w' => e = .returned (.bool (decide (1 ≤ n ∧ n ≤ 4096))) ∧ Ext w w' := by
  by_cases h1 : 1 ≤ n
  · go_enter Tryz.func89, Tryz.ntmps89
    go_wp2
    all_goals
      go_ret
      refine ⟨ret_bool ?_, Ext.refl _⟩
      rw [Bool.eq_iff_iff]
      simp
      try omega
  · go_enter Tryz.func89, Tryz.ntmps89
    go_wp2
    all_goals
      go_ret
      refine ⟨ret_bool ?_, Ext.refl _⟩
      rw [Bool.eq_iff_iff]
      simp
      try omega
def shiftB (b : Bx) (p : Pt) : Bx := ⟨addP b.lo p, addP b.hi p⟩
set_option maxHeartbeats 8000000 in
set_option maxRecDepth 100000 in
theorem Shift_any (b : Bx) (p : Pt) (w : World) : Calls Tryz.prog 122 #[.agg #[.int .i64 b.lo.x, .int .i64 b.lo.y, .int .i64 b.lo.z, .int .i64 b.hi.x, .int .i64 b.hi.y, .int .i64 b.hi.z], .agg #[.int .i64 p.x, .int .i64 p.y, .int .i64 p.z]] w fun e w' => e = .returned (.agg #[.int .i64 (shiftB b p).lo.x, .int .i64 (shiftB b p).lo.y, .int .i64 (shiftB b p).lo.z, .int .i64 (shiftB b p).hi.x, .int .i64 (shiftB b p).hi.y, .int .i64 (shiftB b p).hi.z]) ∧ Ext w w' := by
  have hm := mixed
  have hG := near_old
  obtain ⟨W0, hW⟩ : ∃ W, W = ((w.alloc (.cells #[.int .i64 b.lo.x, .int .i64 b.lo.y, .int .i64 b.lo.z, .int .i64 b.hi.x, .int .i64 b.hi.y, .int .i64 b.hi.z] 27)).alloc (.cells #[.int .i64 p.x, .int .i64 p.y, .int .i64 p.z] 25)).alloc (.cells #[.int .i64 0, .int .i64 0, .int .i64 0, .int .i64 0, .int .i64 0, .int .i64 0] 27) := ⟨_, rfl⟩
  have HX0 := Lib.hid (show Ext w W0 by rw [hW]; exact (((Ext.refl w).alloc _).alloc _).alloc _)
  have HB0 := Lib.hid (show Arr W0 w.heap.size 27 [.int .i64 b.lo.x, .int .i64 b.lo.y, .int .i64 b.lo.z, .int .i64 b.hi.x, .int .i64 b.hi.y, .int .i64 b.hi.z] by rw [hW]; exact ((Arr.new w _ [.int .i64 b.lo.x, .int .i64 b.lo.y, .int .i64 b.lo.z, .int .i64 b.hi.x, .int .i64 b.hi.y, .int .i64 b.hi.z]).alloc _).alloc _)
  have HP0 := Lib.hid (show Arr W0 (w.heap.size + 1) 25 [.int .i64 p.x, .int .i64 p.y, .int .i64 p.z] by rw [hW]; exact (Arr.new1 w _ _ [.int .i64 p.x, .int .i64 p.y, .int .i64 p.z]).alloc _)
  have HR0 := Lib.hid (show Arr W0 (w.heap.size + 1 + 1) 27 [.int .i64 0, .int .i64 0, .int .i64 0, .int .i64 0, .int .i64 0, .int .i64 0] by
    rw [hW]
    have h := Arr.new ((w.alloc (.cells #[.int .i64 b.lo.x, .int .i64 b.lo.y, .int .i64 b.lo.z, .int .i64 b.hi.x, .int .i64 b.hi.y, .int .i64 b.hi.z] 27)).alloc (.cells #[.int .i64 p.x, .int .i64 p.y, .int .i64 p.z] 25)) 27 [.int .i64 0, .int .i64 0, .int .i64 0, .int .i64 0, .int .i64 0, .int .i64 0]
    simp only [World.size_alloc_] at h
    exact h)
  have HA1 := Lib.hid (Add_any b.lo p); have HA2 := Lib.hid (Add_any b.hi p)
  have cB := HB0.out.cell; have cP := HP0.out.cell; have lB := HB0.out.lt; have lP := HP0.out.lt
  go_enter Tryz.func122, Tryz.ntmps122
  go_upto_region 1 with fail
  rw [← hW]
  clear hW
  refine wp_region_near_tail 9 (by assumption) (by kernel_rfl) ?_
  simp only [List.take_succ_cons, List.take_zero, List.drop_succ_cons, List.drop_zero]
  repeat (go_big_quiet_step ((go_at_call 56; first | (with_reducible exact near_call (HA1.out _)) | (with_reducible exact near_call (HA2.out _)))))
  refine wpQuiet_nil ?_
  intro w1 hw1
  have hy := Ext.of_near hw1
  clear hw1
  have HR1 := Lib.hid (HR0.out.ext hy); have HX1 := Lib.hid (HX0.out.trans hy)
  clear hy cB cP lB lP
  go_wp2_with (refine wpList_store_blk 27 (.tmp 4) (.tmp 13) rfl rfl HR1.out [.int .i64 (shiftB b p).lo.x, .int .i64 (shiftB b p).lo.y, .int .i64 (shiftB b p).lo.z, .int .i64 (shiftB b p).hi.x, .int .i64 (shiftB b p).hi.y, .int .i64 (shiftB b p).hi.z] rfl rfl (by kernel_rfl) rfl rfl ?_)
  refine bodyPost_ret (v := .agg #[.int .i64 (shiftB b p).lo.x, .int .i64 (shiftB b p).lo.y, .int .i64 (shiftB b p).lo.z, .int .i64 (shiftB b p).hi.x, .int .i64 (shiftB b p).hi.y, .int .i64 (shiftB b p).hi.z]) ?_ rfl ⟨rfl, HX1.out.setRow (by omega) _⟩
  exact results_cell_row Tryz.results122 _ _ _ _ _ _ _ rfl (HR1.out.setRow [.int .i64 (shiftB b p).lo.x, .int .i64 (shiftB b p).lo.y, .int .i64 (shiftB b p).lo.z, .int .i64 (shiftB b p).hi.x, .int .i64 (shiftB b p).hi.y, .int .i64 (shiftB b p).hi.z]) Tryz.underlying27 rfl (by kernel_rfl)
def aroundB (p : Pt) (n : Int) : Bx := shiftB ⟨⟨-n, -n, -n⟩, ⟨n + 1, n + 1, n + 1⟩⟩ p
def Z6 : List Value := [.int .i64 0, .int .i64 0, .int .i64 0, .int .i64 0, .int .i64 0, .int .i64 0]
set_option maxHeartbeats 8000000 in
set_option maxRecDepth 100000 in
theorem around_any (p : Pt) (n : Int) (h0 : 0 ≤ n) (h1 : n ≤ 1000000) (w : World) : Calls Tryz.prog 90 #[.agg #[.int .i64 p.x, .int .i64 p.y, .int .i64 p.z], .int .i64 n] w fun e w' => e = .returned (.agg #[.int .i64 (aroundB p n).lo.x, .int .i64 (aroundB p n).lo.y, .int .i64 (aroundB p n).lo.z, .int .i64 (aroundB p n).hi.x, .int .i64 (aroundB p n).hi.y, .int .i64 (aroundB p n).hi.z]) ∧ Ext w w' := by
  obtain ⟨W0, hW⟩ : ∃ W, W = (w.alloc (.cells #[.int .i64 p.x, .int .i64 p.y, .int .i64 p.z] 25)).alloc (.cells #[.int .i64 0, .int .i64 0, .int .i64 0, .int .i64 0, .int .i64 0, .int .i64 0] 27) := ⟨_, rfl⟩
  have HX0 := Lib.hid (show Ext w W0 by rw [hW]; exact ((Ext.refl w).alloc _).alloc _)
  have HP0 := Lib.hid (show Arr W0 w.heap.size 25 [.int .i64 p.x, .int .i64 p.y, .int .i64 p.z] by rw [hW]; exact (Arr.new w _ [.int .i64 p.x, .int .i64 p.y, .int .i64 p.z]).alloc _)
  have HR0 := Lib.hid (show Arr W0 (w.heap.size + 1) 27 Z6 by rw [hW]; exact Arr.new1 w _ _ Z6)
  have HS := Lib.hid (show Calls Tryz.prog 122 #[.agg #[.int .i64 (-n), .int .i64 (-n), .int .i64 (-n), .int .i64 (n + 1), .int .i64 (n + 1), .int .i64 (n + 1)], .agg #[.int .i64 p.x, .int .i64 p.y, .int .i64 p.z]] W0 fun e w' => e = .returned (.agg #[.int .i64 (aroundB p n).lo.x, .int .i64 (aroundB p n).lo.y, .int .i64 (aroundB p n).lo.z, .int .i64 (aroundB p n).hi.x, .int .i64 (aroundB p n).hi.y, .int .i64 (aroundB p n).hi.z]) ∧ Ext W0 w' from Shift_any ⟨⟨-n, -n, -n⟩, ⟨n + 1, n + 1, n + 1⟩⟩ p W0)
  go_enter Tryz.func90, Tryz.ntmps90
  go_upto_region 1 with fail
  rw [← hW]
  clear hW
  go_wp2_with (first
    | (refine wpList_load_blk 25 (.tmp 2) rfl rfl HP0.out rfl _ Tryz.underlying25 rfl (by kernel_rfl) ?_) | (refine wpList_load_blk 25 (.tmp 2) rfl rfl (HP0.out.alloc _) rfl _ Tryz.underlying25 rfl (by kernel_rfl) ?_) | (refine wpList_load_blk 25 (.tmp 2) rfl rfl ((HP0.out.alloc _).alloc _) rfl _ Tryz.underlying25 rfl (by kernel_rfl) ?_)
    | (go_at_call 122; refine HS.out.mono ?_; rintro e W1 ⟨rfl, hx1⟩; have HR1 := Lib.hid (HR0.out.ext hx1); have HX1 := Lib.hid (HX0.out.trans hx1); clear hx1)
    | (refine wpList_store_blk 27 (.tmp 4) (.tmp 21) rfl rfl HR1.out [.int .i64 (aroundB p n).lo.x, .int .i64 (aroundB p n).lo.y, .int .i64 (aroundB p n).lo.z, .int .i64 (aroundB p n).hi.x, .int .i64 (aroundB p n).hi.y, .int .i64 (aroundB p n).hi.z] rfl rfl (by kernel_rfl) rfl rfl ?_))
  refine bodyPost_ret (v := .agg #[.int .i64 (aroundB p n).lo.x, .int .i64 (aroundB p n).lo.y, .int .i64 (aroundB p n).lo.z, .int .i64 (aroundB p n).hi.x, .int .i64 (aroundB p n).hi.y, .int .i64 (aroundB p n).hi.z]) ?_ rfl ⟨rfl, HX1.out.setRow (by omega) _⟩
  exact results_cell_row Tryz.results90 _ _ _ _ _ _ _ rfl (HR1.out.setRow [.int .i64 (aroundB p n).lo.x, .int .i64 (aroundB p n).lo.y, .int .i64 (aroundB p n).lo.z, .int .i64 (aroundB p n).hi.x, .int .i64 (aroundB p n).hi.y, .int .i64 (aroundB p n).hi.z]) Tryz.underlying27 rfl (by kernel_rfl)
def ballBx (p : Pt) (n : Int) : Bx := if 1 ≤ n ∧ n ≤ 4096 then aroundB p (n / 2) else zeroBx
set_option maxHeartbeats 8000000 in
set_option maxRecDepth 100000 in
theorem BallBox_any (p : Pt) (n : Int) (w : World) : Calls Tryz.prog 55 #[.agg #[.int .i64 p.x, .int .i64 p.y, .int .i64 p.z], .int .i64 n] w fun e w' => e = .returned (.agg #[.int .i64 (ballBx p n).lo.x, .int .i64 (ballBx p n).lo.y, .int .i64 (ballBx p n).lo.z, .int .i64 (ballBx p n).hi.x, .int .i64 (ballBx p n).hi.y, .int .i64 (ballBx p n).hi.z]) ∧ Ext w w' := by
  obtain ⟨W0, hW⟩ : ∃ W, W = (w.alloc (.cells #[.int .i64 p.x, .int .i64 p.y, .int .i64 p.z] 25)).alloc (.cells #[.int .i64 0, .int .i64 0, .int .i64 0, .int .i64 0, .int .i64 0, .int .i64 0] 27) := ⟨_, rfl⟩
  have HX0 := Lib.hid (show Ext w W0 by rw [hW]; exact ((Ext.refl w).alloc _).alloc _)
  have HP0 := Lib.hid (show Arr W0 w.heap.size 25 [.int .i64 p.x, .int .i64 p.y, .int .i64 p.z] by rw [hW]; exact (Arr.new w _ [.int .i64 p.x, .int .i64 p.y, .int .i64 p.z]).alloc _)
  have HR0 := Lib.hid (show Arr W0 (w.heap.size + 1) 27 Z6 by rw [hW]; exact Arr.new1 w _ _ Z6)
  have HI := Lib.hid (isSizeB_any n W0)
  by_cases hn : 1 ≤ n ∧ n ≤ 4096
  · have HD := Lib.hid (show ballBx p n = aroundB p (n / 2) by unfold ballBx; rw [if_pos hn])
    rw [decide_eq_true hn] at HI
    rw [HD.out]
    have hq : n.tdiv 2 = n / 2 := Int.tdiv_eq_ediv_of_nonneg (by omega)
    obtain ⟨h, hh⟩ : ∃ h, h = n / 2 := ⟨_, rfl⟩
    have hh0 : 0 ≤ h ∧ h ≤ 2048 := by omega
    have HAR := Lib.hid (around_any p h hh0.1 (by omega))
    rw [← hh] at hq ⊢
    clear hh
    go_enter Tryz.func55, Tryz.ntmps55
    go_upto_region 1 with fail
    rw [← hW]
    clear hW
    go_wp2_with (first
      | (go_at_call 89; refine HI.out.mono ?_; rintro e W1 ⟨rfl, hx1⟩; have HR1 := Lib.hid (HR0.out.ext hx1); have HP1 := Lib.hid (HP0.out.ext hx1); have HX1 := Lib.hid (HX0.out.trans hx1); clear hx1)
      | (refine wpList_load_blk 25 (.tmp 2) rfl rfl HP1.out rfl _ Tryz.underlying25 rfl (by kernel_rfl) ?_) | (refine wpList_load_blk 25 (.tmp 2) rfl rfl (HP1.out.alloc _) rfl _ Tryz.underlying25 rfl (by kernel_rfl) ?_) | (refine wpList_load_blk 25 (.tmp 2) rfl rfl ((HP1.out.alloc _).alloc _) rfl _ Tryz.underlying25 rfl (by kernel_rfl) ?_)
      | (go_at_call 90; refine (HAR.out _).mono ?_; rintro e W2 ⟨rfl, hx2⟩; have HR2 := Lib.hid (HR1.out.ext hx2); have HX2 := Lib.hid (HX1.out.trans hx2); clear hx2)
      | (refine wpList_store_blk 27 (.tmp 4) (.tmp 12) rfl rfl HR2.out [.int .i64 (aroundB p h).lo.x, .int .i64 (aroundB p h).lo.y, .int .i64 (aroundB p h).lo.z, .int .i64 (aroundB p h).hi.x, .int .i64 (aroundB p h).hi.y, .int .i64 (aroundB p h).hi.z] rfl rfl (by kernel_rfl) rfl rfl ?_))
    refine bodyPost_ret (v := .agg #[.int .i64 (aroundB p h).lo.x, .int .i64 (aroundB p h).lo.y, .int .i64 (aroundB p h).lo.z, .int .i64 (aroundB p h).hi.x, .int .i64 (aroundB p h).hi.y, .int .i64 (aroundB p h).hi.z]) ?_ rfl ⟨rfl, HX2.out.setRow (by omega) _⟩
    exact results_cell_row Tryz.results55 _ _ _ _ _ _ _ rfl (HR2.out.setRow [.int .i64 (aroundB p h).lo.x, .int .i64 (aroundB p h).lo.y, .int .i64 (aroundB p h).lo.z, .int .i64 (aroundB p h).hi.x, .int .i64 (aroundB p h).hi.y, .int .i64 (aroundB p h).hi.z]) Tryz.underlying27 rfl (by kernel_rfl)
  · have HD := Lib.hid (show ballBx p n = zeroBx by unfold ballBx; rw [if_neg hn])
    rw [decide_eq_false hn] at HI
    rw [HD.out]
    go_enter Tryz.func55, Tryz.ntmps55
    go_upto_region 1 with fail
    rw [← hW]
    clear hW
    go_wp2_with (first
      | (go_at_call 89; refine HI.out.mono ?_; rintro e W1 ⟨rfl, hx1⟩; have HR1 := Lib.hid (HR0.out.ext hx1); have HX1 := Lib.hid (HX0.out.trans hx1); clear hx1)
      | (refine wpList_store_blk 27 (.tmp 4) (.tmp 8) rfl rfl HR1.out [.int .i64 zeroBx.lo.x, .int .i64 zeroBx.lo.y, .int .i64 zeroBx.lo.z, .int .i64 zeroBx.hi.x, .int .i64 zeroBx.hi.y, .int .i64 zeroBx.hi.z] rfl rfl (by kernel_rfl) rfl rfl ?_))
    refine bodyPost_ret (v := .agg #[.int .i64 zeroBx.lo.x, .int .i64 zeroBx.lo.y, .int .i64 zeroBx.lo.z, .int .i64 zeroBx.hi.x, .int .i64 zeroBx.hi.y, .int .i64 zeroBx.hi.z]) ?_ rfl ⟨rfl, HX1.out.setRow (by omega) _⟩
    exact results_cell_row Tryz.results55 _ _ _ _ _ _ _ rfl (HR1.out.setRow [.int .i64 zeroBx.lo.x, .int .i64 zeroBx.lo.y, .int .i64 zeroBx.lo.z, .int .i64 zeroBx.hi.x, .int .i64 zeroBx.hi.y, .int .i64 zeroBx.hi.z]) Tryz.underlying27 rfl (by kernel_rfl)
end Go.Proofs.YtlinhgannajfpaaGreatDoor

/- edit.Bounds of a ball; ball, undo of the law. -/
namespace Go.Proofs.YtlinhgannajfpaaGreatDoor
open Go Go.RowKit

def cubeD (d : Int) : Bx := cubeB (2 ^ d.toNat)
set_option maxHeartbeats 8000000 in
set_option maxRecDepth 100000 in
theorem Bounds_ball (x : Ed) (hk : x.kind = 2) (d : Int) (hd : 2 ≤ d ∧ d ≤ 14) (w : World) :
    Calls Tryz.prog 15 #[.agg #[.int .i64 x.st.tick, .int .i64 x.st.clock, .int .i64 x.st.site, .int .i64 x.st.seq, .int .i64 x.kind, .int .i64 x.box.lo.x, .int .i64 x.box.lo.y, .int .i64 x.box.lo.z, .int .i64 x.box.hi.x, .int .i64 x.box.hi.y, .int .i64 x.box.hi.z, .int .i64 x.at_.x, .int .i64 x.at_.y, .int .i64 x.at_.z, .int .i64 x.turn, .int .i64 x.cell, .int .i64 x.size], .int .i64 d] w fun e w' => e = .returned (.agg #[.int .i64 (interB (ballBx x.at_ x.size) (cubeD d)).lo.x, .int .i64 (interB (ballBx x.at_ x.size) (cubeD d)).lo.y, .int .i64 (interB (ballBx x.at_ x.size) (cubeD d)).lo.z, .int .i64 (interB (ballBx x.at_ x.size) (cubeD d)).hi.x, .int .i64 (interB (ballBx x.at_ x.size) (cubeD d)).hi.y, .int .i64 (interB (ballBx x.at_ x.size) (cubeD d)).hi.z]) ∧ Ext w w' := by
  have hm := mixed
  have hG := near_old
  have hsh := shl_run d hd
  obtain ⟨st, kind, box, at_, turn, cell, size⟩ := x
  simp only at hk
  subst hk
  unfold cubeD
  obtain ⟨S, hS⟩ : ∃ S : Int, (2 : Int) ^ d.toNat = S := ⟨_, rfl⟩
  have hw6 : wrap64 ((2 : Int) ^ d.toNat) = (2 : Int) ^ d.toNat := by
    rcases (show d = 2 ∨ d = 3 ∨ d = 4 ∨ d = 5 ∨ d = 6 ∨ d = 7 ∨ d = 8 ∨ d = 9 ∨ d = 10 ∨ d = 11 ∨ d = 12 ∨ d = 13 ∨ d = 14 by omega) with h | h | h | h | h | h | h | h | h | h | h | h | h <;> subst h <;> kernel_rfl
  rw [hS] at hsh ⊢
  rw (occs := .pos [2]) [hS] at hw6
  clear hS
  obtain ⟨bb, hbb⟩ : ∃ bb, bb = ballBx at_ size := ⟨_, rfl⟩
  obtain ⟨rb, hrb⟩ : ∃ rb, rb = interB bb (cubeB S) := ⟨_, rfl⟩
  have HBB' := fun w => BallBox_any at_ size w
  rw [← hbb] at HBB' ⊢
  rw [← hrb]
  have HI := Lib.hid (Intersect_any bb (cubeB S))
  rw [← hrb] at HI
  clear hbb hrb
  obtain ⟨W0, hW⟩ : ∃ W, W = ((w.alloc (.cells #[.int .i64 st.tick, .int .i64 st.clock, .int .i64 st.site, .int .i64 st.seq, .int .i64 2, .int .i64 box.lo.x, .int .i64 box.lo.y, .int .i64 box.lo.z, .int .i64 box.hi.x, .int .i64 box.hi.y, .int .i64 box.hi.z, .int .i64 at_.x, .int .i64 at_.y, .int .i64 at_.z, .int .i64 turn, .int .i64 cell, .int .i64 size] 29)).alloc (.cells #[.int .i64 0, .int .i64 0, .int .i64 0, .int .i64 0, .int .i64 0, .int .i64 0] 27)).alloc (.cells #[.int .i64 0, .int .i64 0, .int .i64 0, .int .i64 0, .int .i64 0, .int .i64 0] 27) := ⟨_, rfl⟩
  have HX0 := Lib.hid (show Ext w W0 by rw [hW]; exact (((Ext.refl w).alloc _).alloc _).alloc _)
  have HB0 := Lib.hid (show Arr W0 w.heap.size 29 [.int .i64 st.tick, .int .i64 st.clock, .int .i64 st.site, .int .i64 st.seq, .int .i64 2, .int .i64 box.lo.x, .int .i64 box.lo.y, .int .i64 box.lo.z, .int .i64 box.hi.x, .int .i64 box.hi.y, .int .i64 box.hi.z, .int .i64 at_.x, .int .i64 at_.y, .int .i64 at_.z, .int .i64 turn, .int .i64 cell, .int .i64 size] by rw [hW]; exact ((Arr.new w _ _).alloc _).alloc _)
  have HR0 := Lib.hid (show Arr W0 (w.heap.size + 1) 27 Z6 by rw [hW]; exact (Arr.new1 w _ _ Z6).alloc _)
  have HV0 := Lib.hid (show Arr W0 (w.heap.size + 1 + 1) 27 Z6 by
    rw [hW]
    have h := Arr.new ((w.alloc (.cells #[.int .i64 st.tick, .int .i64 st.clock, .int .i64 st.site, .int .i64 st.seq, .int .i64 2, .int .i64 box.lo.x, .int .i64 box.lo.y, .int .i64 box.lo.z, .int .i64 box.hi.x, .int .i64 box.hi.y, .int .i64 box.hi.z, .int .i64 at_.x, .int .i64 at_.y, .int .i64 at_.z, .int .i64 turn, .int .i64 cell, .int .i64 size] 29)).alloc (.cells #[.int .i64 0, .int .i64 0, .int .i64 0, .int .i64 0, .int .i64 0, .int .i64 0] 27)) 27 Z6
    simp only [World.size_alloc_] at h
    exact h)
  have HBB := Lib.hid (HBB' W0)
  clear HBB'
  have cB := HB0.out.cell; have lB := HB0.out.lt
  go_enter Tryz.func15, Tryz.ntmps15
  go_upto_region 2 with fail
  rw [← hW]
  clear hW
  have HCU := Lib.hid (fun (w' : World) => (show Calls Tryz.prog 45 #[.int .i64 S] w' fun e w'' => e = .returned (.agg #[.int .i64 (cubeB S).lo.x, .int .i64 (cubeB S).lo.y, .int .i64 (cubeB S).lo.z, .int .i64 (cubeB S).hi.x, .int .i64 (cubeB S).hi.y, .int .i64 (cubeB S).hi.z]) ∧ Ext w' w'' from Cube_any S w'))
  go_upto_region 14 with (first
    | (refine wpList_load_part 25 (.tmp 16) rfl rfl HB0.out 11 [.int .i64 at_.x, .int .i64 at_.y, .int .i64 at_.z] rfl rfl _ Tryz.underlying25 rfl (by kernel_rfl) ?_) | (refine wpList_load_part 25 (.tmp 16) rfl rfl (HB0.out.alloc _) 11 [.int .i64 at_.x, .int .i64 at_.y, .int .i64 at_.z] rfl rfl _ Tryz.underlying25 rfl (by kernel_rfl) ?_)
    | (go_at_call 55; refine HBB.out.mono ?_; rintro e W1 ⟨rfl, hx1⟩; have HR1 := Lib.hid (HR0.out.ext hx1); have HV1 := Lib.hid (HV0.out.ext hx1); have HX1 := Lib.hid (HX0.out.trans hx1); clear hx1)
    | (refine wpList_store_blk2 27 (.tmp 5) (.tmp 20) rfl rfl HV1.out [.int .i64 bb.lo.x, .int .i64 bb.lo.y, .int .i64 bb.lo.z, .int .i64 bb.hi.x, .int .i64 bb.hi.y, .int .i64 bb.hi.z] rfl rfl (by kernel_rfl) rfl rfl rfl ?_; intro W2 hW2; have HR2 := Lib.hid (show Arr W2 (w.heap.size + 1) 27 Z6 by rw [hW2]; exact HR1.out.setRow_other (by omega) _); have HV2 := Lib.hid (show Arr W2 (w.heap.size + 1 + 1) 27 [.int .i64 bb.lo.x, .int .i64 bb.lo.y, .int .i64 bb.lo.z, .int .i64 bb.hi.x, .int .i64 bb.hi.y, .int .i64 bb.hi.z] by rw [hW2]; exact HV1.out.setRow _); have HX2 := Lib.hid (show Ext w W2 by rw [hW2]; exact HX1.out.setRow (by omega) _); clear hW2))
  clear cB lB
  have cV := HV2.out.cell; have lV := HV2.out.lt
  refine wp_region_near_tail 5 (by assumption) (by kernel_rfl) ?_
  simp only [List.take_succ_cons, List.take_zero, List.drop_succ_cons, List.drop_zero]
  repeat (go_big_quiet_step ((first | (go_at_call 45; exact near_call (HCU.out _)) | (go_at_call 59; exact near_call (HI.out _)))))
  refine wpQuiet_nil ?_
  intro w1 hw1
  have hy := Ext.of_near hw1
  clear hw1
  have HR3 := Lib.hid (HR2.out.ext hy); have HX3 := Lib.hid (HX2.out.trans hy)
  clear hy cV lV
  go_wp2_with (refine wpList_store_blk 27 (.tmp 4) (.tmp 63) rfl rfl HR3.out [.int .i64 rb.lo.x, .int .i64 rb.lo.y, .int .i64 rb.lo.z, .int .i64 rb.hi.x, .int .i64 rb.hi.y, .int .i64 rb.hi.z] rfl rfl (by kernel_rfl) rfl rfl ?_)
  refine bodyPost_ret (v := .agg #[.int .i64 rb.lo.x, .int .i64 rb.lo.y, .int .i64 rb.lo.z, .int .i64 rb.hi.x, .int .i64 rb.hi.y, .int .i64 rb.hi.z]) ?_ rfl ⟨rfl, HX3.out.setRow (by omega) _⟩
  exact results_cell_row Tryz.results15 _ _ _ _ _ _ _ rfl (HR3.out.setRow [.int .i64 rb.lo.x, .int .i64 rb.lo.y, .int .i64 rb.lo.z, .int .i64 rb.hi.x, .int .i64 rb.hi.y, .int .i64 rb.hi.z]) Tryz.underlying27 rfl (by kernel_rfl)
def ballEd : Ed := ⟨⟨3, 5, 1, 2⟩, 2, ⟨⟨0, 0, 0⟩, ⟨0, 0, 0⟩⟩, ⟨4, 4, 4⟩, 0, 1, 3⟩
def undoEd (size cell : Int) : Ed := ⟨⟨3, 5, 1, 2⟩, 6, ⟨⟨0, 0, 0⟩, ⟨0, 0, 0⟩⟩, ⟨0, 0, 0⟩, 0, cell, size⟩
set_option maxHeartbeats 4000000 in
set_option maxRecDepth 100000 in
theorem ball_any (w : World) : Calls Tryz.prog 42 #[] w fun e w' => e = .returned (.agg #[.int .i64 ballEd.st.tick, .int .i64 ballEd.st.clock, .int .i64 ballEd.st.site, .int .i64 ballEd.st.seq, .int .i64 ballEd.kind, .int .i64 ballEd.box.lo.x, .int .i64 ballEd.box.lo.y, .int .i64 ballEd.box.lo.z, .int .i64 ballEd.box.hi.x, .int .i64 ballEd.box.hi.y, .int .i64 ballEd.box.hi.z, .int .i64 ballEd.at_.x, .int .i64 ballEd.at_.y, .int .i64 ballEd.at_.z, .int .i64 ballEd.turn, .int .i64 ballEd.cell, .int .i64 ballEd.size]) ∧ Ext w w' := by
  have HB0 := Lib.hid (Arr.new w 29 [.int .i64 0, .int .i64 0, .int .i64 0, .int .i64 0, .int .i64 0, .int .i64 0, .int .i64 0, .int .i64 0, .int .i64 0, .int .i64 0, .int .i64 0, .int .i64 0, .int .i64 0, .int .i64 0, .int .i64 0, .int .i64 0, .int .i64 0])
  go_enter Tryz.func42, Tryz.ntmps42
  go_wp2_with (refine wpList_store_blk 29 (.tmp 0) (.tmp 3) rfl rfl HB0.out [.int .i64 ballEd.st.tick, .int .i64 ballEd.st.clock, .int .i64 ballEd.st.site, .int .i64 ballEd.st.seq, .int .i64 ballEd.kind, .int .i64 ballEd.box.lo.x, .int .i64 ballEd.box.lo.y, .int .i64 ballEd.box.lo.z, .int .i64 ballEd.box.hi.x, .int .i64 ballEd.box.hi.y, .int .i64 ballEd.box.hi.z, .int .i64 ballEd.at_.x, .int .i64 ballEd.at_.y, .int .i64 ballEd.at_.z, .int .i64 ballEd.turn, .int .i64 ballEd.cell, .int .i64 ballEd.size] rfl rfl (by kernel_rfl) rfl rfl ?_)
  refine bodyPost_ret (v := .agg #[.int .i64 ballEd.st.tick, .int .i64 ballEd.st.clock, .int .i64 ballEd.st.site, .int .i64 ballEd.st.seq, .int .i64 ballEd.kind, .int .i64 ballEd.box.lo.x, .int .i64 ballEd.box.lo.y, .int .i64 ballEd.box.lo.z, .int .i64 ballEd.box.hi.x, .int .i64 ballEd.box.hi.y, .int .i64 ballEd.box.hi.z, .int .i64 ballEd.at_.x, .int .i64 ballEd.at_.y, .int .i64 ballEd.at_.z, .int .i64 ballEd.turn, .int .i64 ballEd.cell, .int .i64 ballEd.size]) ?_ rfl ⟨rfl, ((Ext.refl w).alloc _).setRow (Nat.le_refl _) _⟩
  exact results_cell_row Tryz.results42 _ _ _ _ _ _ _ rfl (HB0.out.setRow [.int .i64 ballEd.st.tick, .int .i64 ballEd.st.clock, .int .i64 ballEd.st.site, .int .i64 ballEd.st.seq, .int .i64 ballEd.kind, .int .i64 ballEd.box.lo.x, .int .i64 ballEd.box.lo.y, .int .i64 ballEd.box.lo.z, .int .i64 ballEd.box.hi.x, .int .i64 ballEd.box.hi.y, .int .i64 ballEd.box.hi.z, .int .i64 ballEd.at_.x, .int .i64 ballEd.at_.y, .int .i64 ballEd.at_.z, .int .i64 ballEd.turn, .int .i64 ballEd.cell, .int .i64 ballEd.size]) Tryz.underlying29 rfl (by kernel_rfl)
set_option maxHeartbeats 4000000 in
set_option maxRecDepth 100000 in
theorem undo_any (size cell : Int) (w : World) : Calls Tryz.prog 43 #[.int .i64 size, .int .i64 cell] w fun e w' => e = .returned (.agg #[.int .i64 (undoEd size cell).st.tick, .int .i64 (undoEd size cell).st.clock, .int .i64 (undoEd size cell).st.site, .int .i64 (undoEd size cell).st.seq, .int .i64 (undoEd size cell).kind, .int .i64 (undoEd size cell).box.lo.x, .int .i64 (undoEd size cell).box.lo.y, .int .i64 (undoEd size cell).box.lo.z, .int .i64 (undoEd size cell).box.hi.x, .int .i64 (undoEd size cell).box.hi.y, .int .i64 (undoEd size cell).box.hi.z, .int .i64 (undoEd size cell).at_.x, .int .i64 (undoEd size cell).at_.y, .int .i64 (undoEd size cell).at_.z, .int .i64 (undoEd size cell).turn, .int .i64 (undoEd size cell).cell, .int .i64 (undoEd size cell).size]) ∧ Ext w w' := by
  obtain ⟨W0, hW⟩ : ∃ W, W = w.alloc (.cells #[.int .i64 0, .int .i64 0, .int .i64 0, .int .i64 0, .int .i64 0, .int .i64 0, .int .i64 0, .int .i64 0, .int .i64 0, .int .i64 0, .int .i64 0, .int .i64 0, .int .i64 0, .int .i64 0, .int .i64 0, .int .i64 0, .int .i64 0] 29) := ⟨_, rfl⟩
  have HX0 := Lib.hid (show Ext w W0 by rw [hW]; exact (Ext.refl w).alloc _)
  have HB0 := Lib.hid (show Arr W0 w.heap.size 29 [.int .i64 0, .int .i64 0, .int .i64 0, .int .i64 0, .int .i64 0, .int .i64 0, .int .i64 0, .int .i64 0, .int .i64 0, .int .i64 0, .int .i64 0, .int .i64 0, .int .i64 0, .int .i64 0, .int .i64 0, .int .i64 0, .int .i64 0] by rw [hW]; exact Arr.new w _ _)
  have HC := Lib.hid (ball_any W0)
  have hF : ∀ W : World, Sem.run Tryz.prog (Instr.field 29 (.agg #[.int .i64 ballEd.st.tick, .int .i64 ballEd.st.clock, .int .i64 ballEd.st.site, .int .i64 ballEd.st.seq, .int .i64 ballEd.kind, .int .i64 ballEd.box.lo.x, .int .i64 ballEd.box.lo.y, .int .i64 ballEd.box.lo.z, .int .i64 ballEd.box.hi.x, .int .i64 ballEd.box.hi.y, .int .i64 ballEd.box.hi.z, .int .i64 ballEd.at_.x, .int .i64 ballEd.at_.y, .int .i64 ballEd.at_.z, .int .i64 ballEd.turn, .int .i64 ballEd.cell, .int .i64 ballEd.size]) 0) W = .ok (.agg #[.int .i64 ballEd.st.tick, .int .i64 ballEd.st.clock, .int .i64 ballEd.st.site, .int .i64 ballEd.st.seq]) W := fun W => by kernel_rfl
  go_enter Tryz.func43, Tryz.ntmps43
  go_upto_region 1 with fail
  rw [← hW]
  clear hW
  go_wp2_with (first
    | (go_at_call 42; refine HC.out.mono ?_; rintro e W1 ⟨rfl, hx1⟩; have HB1 := Lib.hid (HB0.out.ext hx1); have HX1 := Lib.hid (HX0.out.trans hx1); clear hx1)
    | (refine wpList_store_blk 29 (.tmp 4) (.tmp 9) rfl rfl HB1.out [.int .i64 (undoEd size cell).st.tick, .int .i64 (undoEd size cell).st.clock, .int .i64 (undoEd size cell).st.site, .int .i64 (undoEd size cell).st.seq, .int .i64 (undoEd size cell).kind, .int .i64 (undoEd size cell).box.lo.x, .int .i64 (undoEd size cell).box.lo.y, .int .i64 (undoEd size cell).box.lo.z, .int .i64 (undoEd size cell).box.hi.x, .int .i64 (undoEd size cell).box.hi.y, .int .i64 (undoEd size cell).box.hi.z, .int .i64 (undoEd size cell).at_.x, .int .i64 (undoEd size cell).at_.y, .int .i64 (undoEd size cell).at_.z, .int .i64 (undoEd size cell).turn, .int .i64 (undoEd size cell).cell, .int .i64 (undoEd size cell).size] rfl rfl (by kernel_rfl) rfl rfl ?_))
  refine bodyPost_ret (v := .agg #[.int .i64 (undoEd size cell).st.tick, .int .i64 (undoEd size cell).st.clock, .int .i64 (undoEd size cell).st.site, .int .i64 (undoEd size cell).st.seq, .int .i64 (undoEd size cell).kind, .int .i64 (undoEd size cell).box.lo.x, .int .i64 (undoEd size cell).box.lo.y, .int .i64 (undoEd size cell).box.lo.z, .int .i64 (undoEd size cell).box.hi.x, .int .i64 (undoEd size cell).box.hi.y, .int .i64 (undoEd size cell).box.hi.z, .int .i64 (undoEd size cell).at_.x, .int .i64 (undoEd size cell).at_.y, .int .i64 (undoEd size cell).at_.z, .int .i64 (undoEd size cell).turn, .int .i64 (undoEd size cell).cell, .int .i64 (undoEd size cell).size]) ?_ rfl ⟨rfl, HX1.out.setRow (Nat.le_refl _) _⟩
  exact results_cell_row Tryz.results43 _ _ _ _ _ _ _ rfl (HB1.out.setRow [.int .i64 (undoEd size cell).st.tick, .int .i64 (undoEd size cell).st.clock, .int .i64 (undoEd size cell).st.site, .int .i64 (undoEd size cell).st.seq, .int .i64 (undoEd size cell).kind, .int .i64 (undoEd size cell).box.lo.x, .int .i64 (undoEd size cell).box.lo.y, .int .i64 (undoEd size cell).box.lo.z, .int .i64 (undoEd size cell).box.hi.x, .int .i64 (undoEd size cell).box.hi.y, .int .i64 (undoEd size cell).box.hi.z, .int .i64 (undoEd size cell).at_.x, .int .i64 (undoEd size cell).at_.y, .int .i64 (undoEd size cell).at_.z, .int .i64 (undoEd size cell).turn, .int .i64 (undoEd size cell).cell, .int .i64 (undoEd size cell).size]) Tryz.underlying29 rfl (by kernel_rfl)
end Go.Proofs.YtlinhgannajfpaaGreatDoor

/- The table of the axes as a laid variable. -/
namespace Go.Proofs.YtlinhgannajfpaaGreatDoor
open Go Go.RowKit

def axisL : Nat → List UInt8
  | 0 => [120, 121, 122]
  | 1 => [120, 122, 121]
  | 2 => [121, 120, 122]
  | 3 => [121, 122, 120]
  | 4 => [122, 120, 121]
  | 5 => [122, 121, 120]
  | _ => []
/-- The names of the axes lie in the table. -/
structure AxesIn (w : World) : Prop where
  at_ : ∀ i, i < 6 → w.cell? ⟨1, i, none⟩ = some (strV (axisL i))
  lt : 1 < w.heap.size
theorem AxesIn.ext {w w' : World} (h : AxesIn w) (hx : Ext w w') : AxesIn w' := ⟨fun i hi => (hx.cell (p := ⟨1, i, none⟩) h.lt).trans (h.at_ i hi), Nat.lt_of_lt_of_le h.lt hx.size⟩
end Go.Proofs.YtlinhgannajfpaaGreatDoor

/- slices.Compact at Ed, on a row of the call's own that is in order. -/
namespace Go.Proofs.YtlinhgannajfpaaGreatDoor
open Go Go.RowKit

/-- It hands back the first rows of the same block: the list without repetitions; only this block has turned. -/
def RetCEd (g c base : Nat) (l : List Ed) (w : World) (en : Ending) (w' : World) : Prop :=
  ∃ m : List Ed, Srt befE m ∧ (∀ q, q ∈ m ↔ q ∈ l) ∧ en = .returned (.slice (some ⟨g, 0, none⟩) m.length c) ∧ w'.ownsRow base 29 17 (.slice (some ⟨g, 0, none⟩) m.length c) m.length (rowsE m).flatten ∧ w.grownBy w' (some g)
theorem CompactEd_none (w : World) :
    Calls Tryz.prog 70 #[.slice none 0 0] w fun e w' => e = .returned (.slice none 0 0) ∧ w' = w := by
  go_enter Tryz.func70, Tryz.ntmps70
  go_wp2
  go_ret
  exact ⟨rfl, rfl⟩
set_option maxRecDepth 100000 in
set_option maxHeartbeats 8000000 in
theorem CompactEd_own (g c base : Nat) (l : List Ed) (w : World) (ho : w.ownsRow base 29 17 (.slice (some ⟨g, 0, none⟩) l.length c) l.length (rowsE l).flatten) (hl : LeR befE l) (hb : l.length ≤ 1034834473200) :
    Calls Tryz.prog 70 #[.slice (some ⟨g, 0, none⟩) l.length c] w (RetCEd g c base l w) := by
  have hm := mixed
  obtain ⟨cur0, hbg, hcur0, hnc, hcm, _⟩ := own_cur ho
  have hgl := (Array.getElem?_eq_some_iff.1 hcur0).1
  unfold maxLen at hcm
  have HO := Lib.hid ho; have HL := Lib.hid hl
  clear ho hl hcur0
  by_cases h2 : l.length < 2
  · have HS := Lib.hid (Srt.short (r := befE) h2)
    go_enter Tryz.func70, Tryz.ntmps70
    go_wp2
    go_ret
    exact ⟨l, HS.out, fun q => Iff.rfl, rfl, HO.out, grown_refl _ _⟩
  · go_enter Tryz.func70, Tryz.ntmps70
    go_wp2
    go_loopw [3] (fun i wr => ∃ k : Nat, k + 1 ≤ l.length ∧ i = .int .i64 (k + 1 : Nat) ∧ Srt befE (l.take (k + 1)) ∧ Ext w wr) (fun i _ => l.length - (intOf i).toNat)
    case atStart => exact ⟨0, by omega, rfl, Srt.short (by rw [List.length_take]; omega), Ext.refl _⟩
    case round =>
      obtain ⟨k, hk, rfl, hsr, hx⟩ := hrel
      have HSR := Lib.hid hsr; have HX := Lib.hid hx
      have hgl1 := Nat.lt_of_lt_of_le hgl hx.size
      clear hsr
      by_cases hlt : k + 1 < l.length
      · obtain ⟨p, hp⟩ : ∃ p, l[k]? = some p := ⟨_, List.getElem?_eq_getElem (by omega)⟩
        obtain ⟨q, hq⟩ : ∃ q, l[k + 1]? = some q := ⟨_, List.getElem?_eq_getElem hlt⟩
        have HRP := Lib.hid (own_range (own_ext HO.out hx) (rowsE_rwk l) (rowsE_length l) (j := k) (x := p.cells) (by simp [rowsE, hp]))
        have HRQ := Lib.hid (own_range (own_ext HO.out hx) (rowsE_rwk l) (rowsE_length l) (j := k + 1) (x := q.cells) (by simp [rowsE, hq]))
        have hn := eqEd_run q p
        have hwk : IntKind.i64.wrap (k : Int) = (k : Int) := by rw [IntKind.wrap_i64]; omega
        have hi0 : 0 ≤ (k : Int) + 1 := by omega
        have hi1 : ¬ ((l.length : Int) ≤ (k : Int) + 1) := by omega
        have hkl : k < l.length := by omega
        have HP := Lib.hid hp; have HQ := Lib.hid hq
        have HSUB := Lib.hid (hn)
        clear hp hq hx
        generalize hbb : decide (q = p) = bb at hn
        have HBB := Lib.hid hbb
        clear hbb HSUB
        go_upto_region 6 with fail
        refine wp_region_relD (w := wr) (fun i v w' => match i with
            | 0 => v = .slice (some ⟨g, 0, none⟩) l.length c
            | 1 => v = .int .i64 ((k + 1 : Nat) : Int)
            | 2 => v = .pointer (some ⟨g, (k + 1) * 17, none⟩)
            | 3 => v = .agg q.cells.toArray
            | 4 => v = .slice (some ⟨g, 0, none⟩) l.length c
            | 5 => v = .int .i64 ((k + 1 : Nat) : Int)
            | 6 => v = .int .i64 (k : Nat)
            | 7 => v = .pointer (some ⟨g, k * 17, none⟩)
            | 8 => v = .agg p.cells.toArray
            | 9 => v = .bool bb
            | _ => True) hm (by kernel_rfl) (by kernel_rfl) rfl ?_ ?_ ?_
        · intro i v w1 w2 hx h
          match i, h with
          | 0, h => exact h
          | 1, h => exact h
          | 2, h => exact h
          | 3, h => exact h
          | 4, h => exact h
          | 5, h => exact h
          | 6, h => exact h
          | 7, h => exact h
          | 8, h => exact h
          | 9, h => exact h
          | i + 10, h => exact trivial
        · intro i o ho b w1 hx hmiss hdep K hK
          match i, ho with
          | 0, ho =>
            obtain rfl := Option.some.inj ho
            refine want_none rfl ?_
            have e0 : b.tmps[0]? = some (.slice (some ⟨g, 0, none⟩) l.length c) := hmiss 0 rfl
            exact op_move rfl (eval_of e0) (hK _ w1 (ExtD.refl _) rfl)
          | 1, ho =>
            obtain rfl := Option.some.inj ho
            refine want_none rfl ?_
            have e3 : b.tmps[3]? = some (.int .i64 ((k + 1 : Nat) : Int)) := hmiss 3 rfl
            exact op_move rfl (eval_of e3) (hK _ w1 (ExtD.refl _) rfl)
          | 2, ho =>
            obtain rfl := Option.some.inj ho
            refine want_none rfl ?_
            obtain ⟨v16, g16, e16⟩ := hdep 0 rfl
            have g16 : v16 = .slice (some ⟨g, 0, none⟩) l.length c := g16
            subst g16
            have e16 := e16 16 rfl
            obtain ⟨v17, g17, e17⟩ := hdep 1 rfl
            have g17 : v17 = .int .i64 ((k + 1 : Nat) : Int) := g17
            subst g17
            have e17 := e17 17 rfl
            exact op_run (by unfold execOp; simp [e16, e17, Act.eval, go_sem, hi0, hi1]) (hK _ w1 (ExtD.refl _) rfl)
          | 3, ho =>
            obtain rfl := Option.some.inj ho
            refine want_none rfl ?_
            obtain ⟨v18, g18, e18⟩ := hdep 2 rfl
            have g18 : v18 = .pointer (some ⟨g, (k + 1) * 17, none⟩) := g18
            subst g18
            have e18 := e18 18 rfl
            exact wp_load_mid 29 (.tmp 18) rfl g ((k + 1) * 17) (eval_of e18) q.cells _ (rangeAt_ext HRQ.out hgl1 hx.ext) Tryz.underlying29 rfl (by kernel_rfl) (hK _ w1 (ExtD.refl _) rfl)
          | 4, ho =>
            obtain rfl := Option.some.inj ho
            refine want_none rfl ?_
            have e0 : b.tmps[0]? = some (.slice (some ⟨g, 0, none⟩) l.length c) := hmiss 0 rfl
            exact op_move rfl (eval_of e0) (hK _ w1 (ExtD.refl _) rfl)
          | 5, ho =>
            obtain rfl := Option.some.inj ho
            refine want_none rfl ?_
            have e3 : b.tmps[3]? = some (.int .i64 ((k + 1 : Nat) : Int)) := hmiss 3 rfl
            exact op_move rfl (eval_of e3) (hK _ w1 (ExtD.refl _) rfl)
          | 6, ho =>
            obtain rfl := Option.some.inj ho
            refine want_none rfl ?_
            obtain ⟨v21, g21, e21⟩ := hdep 5 rfl
            have g21 : v21 = .int .i64 ((k + 1 : Nat) : Int) := g21
            subst g21
            have e21 := e21 21 rfl
            exact op_run (by unfold execOp; simp [e21, Act.eval, go_sem, hwk]) (hK _ w1 (ExtD.refl _) rfl)
          | 7, ho =>
            obtain rfl := Option.some.inj ho
            refine want_none rfl ?_
            obtain ⟨v20, g20, e20⟩ := hdep 4 rfl
            have g20 : v20 = .slice (some ⟨g, 0, none⟩) l.length c := g20
            subst g20
            have e20 := e20 20 rfl
            obtain ⟨v22, g22, e22⟩ := hdep 6 rfl
            have g22 : v22 = .int .i64 (k : Nat) := g22
            subst g22
            have e22 := e22 22 rfl
            exact op_run (by unfold execOp; simp [e20, e22, Act.eval, go_sem, hkl]) (hK _ w1 (ExtD.refl _) rfl)
          | 8, ho =>
            obtain rfl := Option.some.inj ho
            refine want_none rfl ?_
            obtain ⟨v23, g23, e23⟩ := hdep 7 rfl
            have g23 : v23 = .pointer (some ⟨g, k * 17, none⟩) := g23
            subst g23
            have e23 := e23 23 rfl
            exact wp_load_mid 29 (.tmp 23) rfl g (k * 17) (eval_of e23) p.cells _ (rangeAt_ext HRP.out hgl1 hx.ext) Tryz.underlying29 rfl (by kernel_rfl) (hK _ w1 (ExtD.refl _) rfl)
          | 9, ho =>
            obtain rfl := Option.some.inj ho
            refine want_none rfl ?_
            obtain ⟨v19, g19, e19⟩ := hdep 3 rfl
            have g19 : v19 = .agg q.cells.toArray := g19
            subst g19
            have e19 := e19 19 rfl
            obtain ⟨v24, g24, e24⟩ := hdep 8 rfl
            have g24 : v24 = .agg p.cells.toArray := g24
            subst g24
            have e24 := e24 24 rfl
            exact op_run (by unfold execOp; simp [e19, e24, Act.eval, go_sem, hn]) (hK _ w1 (ExtD.refl _) rfl)
          | i + 10, ho => cases ho
        · intro V W6 hx hg
          have q0 : V 9 = .bool bb := hg 9 (by decide)
          simp only [List.length_cons, List.length_nil, fillAllN, dstOf, Act.put, List.getElem?_toArray, List.getElem?_cons_zero, List.getElem?_cons_succ, Option.bind_some, List.setIfInBounds_toArray, List.set_cons_zero, List.set_cons_succ, q0]
          have HX1 := Lib.hid (HX.out.trans hx.ext)
          clear hg q0 hx hn
          have hck : ¬ c = k + 1 := by omega
          have hck2 : k + 1 ≤ c := by omega
          cases bb
          · have hqp : q ≠ p := by simpa using HBB.out
            have HSR2 := Lib.hid (HL.out.step ordE HSR.out HP.out HQ.out hqp)
            clear hqp
            go_wp2
            go_roundw
            case rel => exact ⟨k + 1, by omega, by go_num, HSR2.out, HX1.out⟩
            case measure => simp [intOf]; omega
          · have hqp : q = p := by simpa using HBB.out
            have HM := Lib.hid (CMidR.start (r := befE) (k := k) HSR.out HP.out (hqp ▸ HQ.out))
            clear hqp
            go_wp2_with fail
            go_loopw [3, 5] (fun i j wv => ∃ (i' d : Nat) (ys : List Ed), i = .int .i64 (i' + 1 : Nat) ∧ j = .int .i64 (d + 1 : Nat) ∧ CMidR befE l ys i' (k + 1 + d) ∧ wv.ownsRow base 29 17 (.slice (some ⟨g, 0, none⟩) l.length c) l.length (rowsE ys).flatten ∧ w.grownBy wv (some g)) (fun _ j _ => l.length - (intOf j).toNat)
            case atStart => exact ⟨k, 0, l, by go_num, by go_num, HM.out, own_ext HO.out HX1.out, HX1.out.by_ _⟩
            case round =>
              obtain ⟨i, d, ys, rfl, rfl, hM, hO, hW⟩ := hrel
              have hij := hM.ij
              have hjn := hM.jn
              have hyl := hM.len
              have hgl2 := Nat.lt_of_lt_of_le hgl hW.size
              have HMM := Lib.hid hM; have HOO := Lib.hid hO; have HWW := Lib.hid hW; have HYL := Lib.hid hyl
              by_cases hlt2 : k + 1 + d + 1 < l.length
              · obtain ⟨p', hp'⟩ : ∃ p, l[k + 1 + d]? = some p := ⟨_, List.getElem?_eq_getElem (by omega)⟩
                obtain ⟨q', hq'⟩ : ∃ q, l[k + 1 + d + 1]? = some q := ⟨_, List.getElem?_eq_getElem hlt2⟩
                have hrp := own_range hO (rowsE_rwk ys) ((rowsE_length ys).trans hyl) (j := k + 1 + d) (x := p'.cells) (by simp [rowsE, (hM.tail _ (Nat.le_refl _)).trans hp'])
                have hrq := own_range hO (rowsE_rwk ys) ((rowsE_length ys).trans hyl) (j := k + 1 + d + 1) (x := q'.cells) (by simp [rowsE, (hM.tail _ (by omega)).trans hq'])
                rw [show (k + 1 + d) * 17 = (k + 1) * 17 + d * 17 by omega] at hrp
                rw [show (k + 1 + d + 1) * 17 = (k + 1) * 17 + (d + 1) * 17 by omega] at hrq
                have HRP2 := Lib.hid hrp; have HRQ2 := Lib.hid hrq
                have hn := neqEd_run q' p'
                have HP' := Lib.hid hp'; have HQ' := Lib.hid hq'
                have hlt3 : d + 1 < l.length - (k + 1) := by omega
                have hdl : d < l.length - (k + 1) := by omega
                have hwd : IntKind.i64.wrap (d : Int) = (d : Int) := by rw [IntKind.wrap_i64]; omega
                have hi2 : 0 ≤ (d : Int) + 1 := by omega
                have hi3 : ¬ (((l.length - (k + 1) : Nat) : Int) ≤ (d : Int) + 1) := by omega
                clear hM hO hW hyl hp' hq' hrp hrq
                generalize hbb : decide (q' ≠ p') = bb2 at hn
                have HBB2 := Lib.hid hbb
                clear hbb
                go_upto_region 11 with fail
                refine wp_region_relD (w := wr) (fun i v w' => match i with
                    | 0 => v = .slice (some ⟨g, (k + 1) * 17, none⟩) (l.length - (k + 1)) (c - (k + 1))
                    | 1 => v = .int .i64 ((d + 1 : Nat) : Int)
                    | 2 => v = .pointer (some ⟨g, (k + 1) * 17 + (d + 1) * 17, none⟩)
                    | 3 => v = .agg q'.cells.toArray
                    | 4 => v = .slice (some ⟨g, (k + 1) * 17, none⟩) (l.length - (k + 1)) (c - (k + 1))
                    | 5 => v = .int .i64 ((d + 1 : Nat) : Int)
                    | 6 => v = .int .i64 (d : Nat)
                    | 7 => v = .pointer (some ⟨g, (k + 1) * 17 + d * 17, none⟩)
                    | 8 => v = .agg p'.cells.toArray
                    | 9 => v = .bool bb2
                    | _ => True) hm (by kernel_rfl) (by kernel_rfl) rfl ?_ ?_ ?_
                · intro i v w1 w2 hx h
                  match i, h with
                  | 0, h => exact h
                  | 1, h => exact h
                  | 2, h => exact h
                  | 3, h => exact h
                  | 4, h => exact h
                  | 5, h => exact h
                  | 6, h => exact h
                  | 7, h => exact h
                  | 8, h => exact h
                  | 9, h => exact h
                  | i + 10, h => exact trivial
                · intro i o ho b w1 hx hmiss hdep K hK
                  match i, ho with
                  | 0, ho =>
                    obtain rfl := Option.some.inj ho
                    refine want_none rfl ?_
                    have e4 : b.tmps[4]? = some (.slice (some ⟨g, (k + 1) * 17, none⟩) (l.length - (k + 1)) (c - (k + 1))) := hmiss 4 rfl
                    exact op_move rfl (eval_of e4) (hK _ w1 (ExtD.refl _) rfl)
                  | 1, ho =>
                    obtain rfl := Option.some.inj ho
                    refine want_none rfl ?_
                    have e5 : b.tmps[5]? = some (.int .i64 ((d + 1 : Nat) : Int)) := hmiss 5 rfl
                    exact op_move rfl (eval_of e5) (hK _ w1 (ExtD.refl _) rfl)
                  | 2, ho =>
                    obtain rfl := Option.some.inj ho
                    refine want_none rfl ?_
                    obtain ⟨v35, g35, e35⟩ := hdep 0 rfl
                    have g35 : v35 = .slice (some ⟨g, (k + 1) * 17, none⟩) (l.length - (k + 1)) (c - (k + 1)) := g35
                    subst g35
                    have e35 := e35 35 rfl
                    obtain ⟨v36, g36, e36⟩ := hdep 1 rfl
                    have g36 : v36 = .int .i64 ((d + 1 : Nat) : Int) := g36
                    subst g36
                    have e36 := e36 36 rfl
                    exact op_run (by unfold execOp; simp [e35, e36, Act.eval, go_sem, hi2, hi3]) (hK _ w1 (ExtD.refl _) rfl)
                  | 3, ho =>
                    obtain rfl := Option.some.inj ho
                    refine want_none rfl ?_
                    obtain ⟨v37, g37, e37⟩ := hdep 2 rfl
                    have g37 : v37 = .pointer (some ⟨g, (k + 1) * 17 + (d + 1) * 17, none⟩) := g37
                    subst g37
                    have e37 := e37 37 rfl
                    exact wp_load_mid 29 (.tmp 37) rfl g ((k + 1) * 17 + (d + 1) * 17) (eval_of e37) q'.cells _ (rangeAt_ext HRQ2.out hgl2 hx.ext) Tryz.underlying29 rfl (by kernel_rfl) (hK _ w1 (ExtD.refl _) rfl)
                  | 4, ho =>
                    obtain rfl := Option.some.inj ho
                    refine want_none rfl ?_
                    have e4 : b.tmps[4]? = some (.slice (some ⟨g, (k + 1) * 17, none⟩) (l.length - (k + 1)) (c - (k + 1))) := hmiss 4 rfl
                    exact op_move rfl (eval_of e4) (hK _ w1 (ExtD.refl _) rfl)
                  | 5, ho =>
                    obtain rfl := Option.some.inj ho
                    refine want_none rfl ?_
                    have e5 : b.tmps[5]? = some (.int .i64 ((d + 1 : Nat) : Int)) := hmiss 5 rfl
                    exact op_move rfl (eval_of e5) (hK _ w1 (ExtD.refl _) rfl)
                  | 6, ho =>
                    obtain rfl := Option.some.inj ho
                    refine want_none rfl ?_
                    obtain ⟨v40, g40, e40⟩ := hdep 5 rfl
                    have g40 : v40 = .int .i64 ((d + 1 : Nat) : Int) := g40
                    subst g40
                    have e40 := e40 40 rfl
                    exact op_run (by unfold execOp; simp [e40, Act.eval, go_sem, hwd]) (hK _ w1 (ExtD.refl _) rfl)
                  | 7, ho =>
                    obtain rfl := Option.some.inj ho
                    refine want_none rfl ?_
                    obtain ⟨v39, g39, e39⟩ := hdep 4 rfl
                    have g39 : v39 = .slice (some ⟨g, (k + 1) * 17, none⟩) (l.length - (k + 1)) (c - (k + 1)) := g39
                    subst g39
                    have e39 := e39 39 rfl
                    obtain ⟨v41, g41, e41⟩ := hdep 6 rfl
                    have g41 : v41 = .int .i64 (d : Nat) := g41
                    subst g41
                    have e41 := e41 41 rfl
                    exact op_run (by unfold execOp; simp [e39, e41, Act.eval, go_sem, hdl]) (hK _ w1 (ExtD.refl _) rfl)
                  | 8, ho =>
                    obtain rfl := Option.some.inj ho
                    refine want_none rfl ?_
                    obtain ⟨v42, g42, e42⟩ := hdep 7 rfl
                    have g42 : v42 = .pointer (some ⟨g, (k + 1) * 17 + d * 17, none⟩) := g42
                    subst g42
                    have e42 := e42 42 rfl
                    exact wp_load_mid 29 (.tmp 42) rfl g ((k + 1) * 17 + d * 17) (eval_of e42) p'.cells _ (rangeAt_ext HRP2.out hgl2 hx.ext) Tryz.underlying29 rfl (by kernel_rfl) (hK _ w1 (ExtD.refl _) rfl)
                  | 9, ho =>
                    obtain rfl := Option.some.inj ho
                    refine want_none rfl ?_
                    obtain ⟨v38, g38, e38⟩ := hdep 3 rfl
                    have g38 : v38 = .agg q'.cells.toArray := g38
                    subst g38
                    have e38 := e38 38 rfl
                    obtain ⟨v43, g43, e43⟩ := hdep 8 rfl
                    have g43 : v43 = .agg p'.cells.toArray := g43
                    subst g43
                    have e43 := e43 43 rfl
                    exact op_run (by unfold execOp; simp [e38, e43, Act.eval, go_sem, hn]) (hK _ w1 (ExtD.refl _) rfl)
                  | i + 10, ho => cases ho
                · intro V W11 hx hg
                  have q0 : V 9 = .bool bb2 := hg 9 (by decide)
                  simp only [List.length_cons, List.length_nil, fillAllN, dstOf, Act.put, List.getElem?_toArray, List.getElem?_cons_zero, List.getElem?_cons_succ, Option.bind_some, List.setIfInBounds_toArray, List.set_cons_zero, List.set_cons_succ, q0]
                  have HY := Lib.hid hx.ext
                  have hgl3 := Nat.lt_of_lt_of_le hgl2 hx.ext.size
                  have HRQ3 := Lib.hid (rangeAt_ext HRQ2.out hgl2 hx.ext)
                  clear hg q0 hx hn
                  cases bb2
                  · have hqp : q' = p' := by simpa using HBB2.out
                    have HM2 := Lib.hid (HMM.out.skip (hqp ▸ HP'.out) HQ'.out)
                    clear hqp
                    go_wp2
                    go_roundw
                    case rel => exact ⟨i, d + 1, ys, rfl, by go_num, HM2.out, own_ext HOO.out HY.out, grown_ext HWW.out HY.out⟩
                    case measure => simp [intOf]; omega
                  · have hqp : q' ≠ p' := by simpa using HBB2.out
                    have HM2 := Lib.hid (HMM.out.put ordE HL.out HP'.out HQ'.out hqp)
                    clear hqp
                    have HO2 := Lib.hid (own_ext HOO.out HY.out)
                    have hlt4 : i + 1 < l.length := by omega
                    have HTH := Lib.hid (show W11.there g ((i + 1) * 17) q'.cells.toArray.size from own_there HO2.out (o := (i + 1) * 17) (m := 17) (by omega))
                    have hset := own_setCells q'.cells ((i + 1) * 17) W11 (rowsE ys).flatten (by rw [flatten_length _ (rowsE_rwk ys).len, rowsE_length, HYL.out]; show (i + 1) * 17 + 17 ≤ l.length * 17; omega) HO2.out
                    have hfl := set_flatten (rowsE ys) (i + 1) q'.cells (rowsE_rwk ys).len rfl (by rw [rowsE_length, HYL.out]; omega)
                    rw [← hfl, ← rowsE_set] at hset
                    have HSET := Lib.hid hset
                    clear hset hfl
                    go_wp2_with (first
                      | (with_reducible refine wpList_load_mid rfl 29 (.tmp 49) rfl g ((k + 1) * 17 + (d + 1) * 17) rfl q'.cells _ HRQ3.out Tryz.underlying29 rfl (by kernel_rfl) ?_)
                      | (with_reducible refine wpList_store_mid rfl 29 (.tmp 51) (.tmp 50) rfl g ((i + 1) * 17) q'.cells.toArray rfl rfl HTH.out (by kernel_rfl) (by rw [List.all_toArray, List.all_eq_true]; exact q'.one) ?_))
                    go_roundw
                    case rel => exact ⟨i + 1, d + 1, ys.set (i + 1) q', by go_num, by go_num, HM2.out, HSET.out.1, grown_trans (grown_ext HWW.out HY.out) HSET.out.2.1⟩
                    case measure => simp [intOf]; omega
              · have hj : k + 1 + d + 1 = l.length := by omega
                have HRES := Lib.hid (show Srt befE (ys.take (i + 1)) ∧ ∀ q, q ∈ ys.take (i + 1) ↔ q ∈ l from ⟨HMM.out.srt, fun q => by rw [HMM.out.mem, hj, List.take_length]⟩)
                obtain ⟨cur, hbg2, hcur, hnc2, hcm2, hcl, htk⟩ := own_cur hO
                have HT := Lib.hid htk
                have HCL := Lib.hid hcl
                have HC := Lib.hid hcur
                obtain ⟨dd, hd⟩ : ∃ dd, l.length - (i + 1) = dd + 1 := ⟨l.length - (i + 1) - 1, by omega⟩
                have HD := Lib.hid hd
                have hic : ¬ c = i + 1 := by omega
                have hic2 : i + 1 ≤ l.length := by omega
                have hic3 : i + 1 ≤ c := by omega
                have hlt3 : ¬ (d + 1 < l.length - (k + 1)) := by omega
                clear hM hO hW hyl htk hcl hcur hd
                go_wp2_with (with_reducible refine wpList_clear_rows (n := dd) rfl (.tmp 56) 35 rfl 29 17 (.agg #[.int .i64 0, .int .i64 0, .int .i64 0, .int .i64 0, .int .i64 0, .int .i64 0, .int .i64 0, .int .i64 0, .int .i64 0, .int .i64 0, .int .i64 0, .int .i64 0, .int .i64 0, .int .i64 0, .int .i64 0, .int .i64 0, .int .i64 0]) Tryz.underlying35 zeroEdV rfl ?h1 g ((i + 1) * 17) (c - (i + 1)) ?h2 cur 29 HC.out ?h3 ?_)
                case h1 => exact zeros_one _ _ (by decide) (by decide)
                case h2 => simp [go_sem, HD.out]
                case h3 => have := HCL.out; have := HD.out; omega
                have hil : i + 1 = (ys.take (i + 1)).length := by rw [List.length_take, HYL.out]; omega
                have HIL := Lib.hid hil; clear hil
                go_ret
                have hD := HD.out
                have hz : (Builtin.zeroCells #[.int .i64 0, .int .i64 0, .int .i64 0, .int .i64 0, .int .i64 0, .int .i64 0, .int .i64 0, .int .i64 0, .int .i64 0, .int .i64 0, .int .i64 0, .int .i64 0, .int .i64 0, .int .i64 0, .int .i64 0, .int .i64 0, .int .i64 0] (dd + 1)).toList.length = (dd + 1) * 17 := by rw [Array.length_toList, size_zeroCells]; rfl
                refine ⟨ys.take (i + 1), HRES.out.1, HRES.out.2, by rw [← HIL.out]; rfl, ?_, grown_row HWW.out _⟩
                rw [← HIL.out, rowsE_take, flatten_take (rowsE ys) (i + 1) (rowsE_rwk ys).len (by rw [rowsE_length, HYL.out]; omega)]
                refine own_of_cur hbg2 (setRow_heap wr g _ _ _ _ HC.out) (by omega) hcm2 (by rw [length_splice _ _ _ (by rw [hz, HCL.out]; omega)]; exact HCL.out) ?_
                rw [splice_take _ _ _ (by rw [HCL.out]; omega), ← HT.out, List.take_take]
                congr 1; omega
      · obtain hkl : k + 1 = l.length := by omega
        have HK := Lib.hid hkl
        go_wp2
        go_ret
        exact ⟨l, by have h := HSR.out; rw [HK.out, List.take_length] at h; exact h, fun q => Iff.rfl, rfl, own_ext HO.out HX.out, HX.out.by_ _⟩
end Go.Proofs.YtlinhgannajfpaaGreatDoor

/- slices.Compact at Nm, on a row of the call's own that is in order. -/
namespace Go.Proofs.YtlinhgannajfpaaGreatDoor
open Go Go.RowKit

end Go.Proofs.YtlinhgannajfpaaGreatDoor

/- stamp.Compare, edit.Compare. -/
namespace Go.Proofs.YtlinhgannajfpaaGreatDoor
open Go Go.RowKit

set_option maxHeartbeats 1000000 in
theorem parts_D (s : Sp) (w : World) :
    Calls Tryz.prog 87 #[.agg #[.int .i64 s.tick, .int .i64 s.clock, .int .i64 s.site, .int .i64 s.seq]] w fun e w' => e = .returned (.agg #[.int .i64 s.tick, .int .i64 s.clock, .int .i64 s.site, .int .i64 s.seq]) ∧ ExtD w w' := by
  go_enter Tryz.func87, Tryz.ntmps87
  go_wp2
  refine bodyPost_ret (v := .agg #[.int .i64 s.tick, .int .i64 s.clock, .int .i64 s.site, .int .i64 s.seq]) ?_ rfl ?_
  · simp (maxDischargeDepth := 9) only [results, Tryz.results87]
    first
      | (go_simp; done)
      | (go_simp; simp; done)
      | (simp (maxDischargeDepth := 9) [go_sem, *]; done)
      | (simp (maxDischargeDepth := 9) [go_sem, *]; simp)
  · exact ⟨rfl, byXD⟩
set_option maxHeartbeats 1000000 in
theorem order_any (A : Option Addr) (c : Nat) (l : List Int) (n B : Nat) (w : World) (hs : Sv w B 1 A c (rowsI l)) (hB : B ≤ w.heap.size) (hn : l.length = n) :
    Calls Tryz.prog 99 #[.slice A n c] w fun e w' => e = .returned (.int .i64 (orL l)) ∧ w = w' := by
  subst hn
  have H := Lib.hid (Or_any A c l B w hs hB)
  clear hs hB
  go_enter Tryz.func99, Tryz.ntmps99
  go_wp2_with (go_at_call 63; refine H.out.mono ?_; rintro e w' ⟨rfl, rfl⟩)
  go_ret
  exact ⟨rfl, rfl⟩
def numsS (s : Sp) : List Int := [s.tick, s.clock, s.site, s.seq]
def cmpS (a b : Sp) : Int := orL [cmpI a.tick b.tick, cmpI a.clock b.clock, cmpI a.site b.site, cmpI a.seq b.seq]
theorem cmpS_eq (a b : Sp) : cmpS a b = cmpV (numsS a) (numsS b) := by
  unfold cmpS numsS
  rw [cmpV_cons, cmpV_cons, cmpV_cons, cmpV_cons]
  rfl
set_option maxRecDepth 100000 in
set_option maxHeartbeats 4000000 in
theorem stampCompare_any (p q : Sp) (w : World) :
    Calls Tryz.prog 64 #[.agg #[.int .i64 p.tick, .int .i64 p.clock, .int .i64 p.site, .int .i64 p.seq], .agg #[.int .i64 q.tick, .int .i64 q.clock, .int .i64 q.site, .int .i64 q.seq]] w fun e w' => e = .returned (.int .i64 (cmpS p q)) ∧ ExtD w w' := by
  have hm := mixed
  have hG := nearD_old
  have hzz : ∃ i z, (Tryz.prog).info? 98 = some i ∧ i.zero = some z ∧ z.cells.toList = [.int .i64 0, .int .i64 0, .int .i64 0, .int .i64 0] := by
    have h : (Tryz.prog.info? 98).map (fun i => (i.zero.map (fun z => z.cells.toList))) = some (some [.int .i64 0, .int .i64 0, .int .i64 0, .int .i64 0]) := by kernel_rfl
    cases hq : Tryz.prog.info? 98 with
    | none => rw [hq] at h; cases h
    | some i =>
      rw [hq] at h
      simp only [Option.map_some, Option.some.injEq] at h
      obtain ⟨z, h1, h2⟩ := Option.map_eq_some_iff.1 h
      exact ⟨i, z, rfl, h1, h2⟩
  have HZ := Lib.hid hzz
  clear hzz
  have B0 := (Arr.new w 23 [.int .i64 p.tick, .int .i64 p.clock, .int .i64 p.site, .int .i64 p.seq]).alloc (.cells #[.int .i64 q.tick, .int .i64 q.clock, .int .i64 q.site, .int .i64 q.seq] 23)
  have B1 := Arr.new (w.alloc (.cells #[.int .i64 p.tick, .int .i64 p.clock, .int .i64 p.site, .int .i64 p.seq] 23)) 23 [.int .i64 q.tick, .int .i64 q.clock, .int .i64 q.site, .int .i64 q.seq]
  rw [World.size_alloc_] at B1
  have hx0 : ExtD w ((w.alloc (.cells #[.int .i64 p.tick, .int .i64 p.clock, .int .i64 p.site, .int .i64 p.seq] 23)).alloc (.cells #[.int .i64 q.tick, .int .i64 q.clock, .int .i64 q.site, .int .i64 q.seq] 23)) := ((ExtD.refl w).alloc _).alloc _
  have HB0 := Lib.hid B0; have HB1 := Lib.hid B1; have HX0 := Lib.hid hx0
  clear B0 B1 hx0
  go_enter Tryz.func64, Tryz.ntmps64
  go_upto_region 1 with fail
  obtain ⟨W0, hW⟩ : ∃ W, W = (w.alloc (.cells #[.int .i64 p.tick, .int .i64 p.clock, .int .i64 p.site, .int .i64 p.seq] 23)).alloc (.cells #[.int .i64 q.tick, .int .i64 q.clock, .int .i64 q.site, .int .i64 q.seq] 23) := ⟨_, rfl⟩
  rw [← hW] at HB0 HB1 HX0
  rw [← hW]
  clear hW
  refine wp_region_two (w := W0) (fun i => match i with | 0 => .agg #[.int .i64 p.tick, .int .i64 p.clock, .int .i64 p.site, .int .i64 p.seq] | 1 => .agg #[.int .i64 p.tick, .int .i64 p.clock, .int .i64 p.site, .int .i64 p.seq] | 2 => .agg #[.int .i64 q.tick, .int .i64 q.clock, .int .i64 q.site, .int .i64 q.seq] | 3 => .agg #[.int .i64 q.tick, .int .i64 q.clock, .int .i64 q.site, .int .i64 q.seq] | _ => undef) 4 98 5 6 8 10 1 3 [.int .i64 0, .int .i64 0, .int .i64 0, .int .i64 0] [.int .i64 p.tick, .int .i64 p.clock, .int .i64 p.site, .int .i64 p.seq] [.int .i64 q.tick, .int .i64 q.clock, .int .i64 q.site, .int .i64 q.seq] hm (by kernel_rfl) (by kernel_rfl) (noGuardD (by kernel_rfl)) rfl ⟨_, rfl, rfl, rfl⟩ ⟨_, rfl, rfl, rfl⟩ ⟨_, rfl, rfl, rfl, rfl, rfl⟩ ⟨_, rfl, rfl, rfl, rfl, rfl⟩ (by decide) (by decide) rfl rfl (by simp) (by simp) (by simp) (by simp) rfl rfl HZ.out (by kernel_rfl) rfl rfl rfl rfl ?_ ?_
  · intro listed w1 i o ho hin hdep hx b K E0 E1 hK
    match i, ho with
    | 0, ho =>
      obtain rfl := Option.some.inj ho
      have e := E0 2 (by kernel_rfl)
      simp only [List.getElem?_toArray, List.getElem?_cons_zero, List.getElem?_cons_succ] at e
      exact op_loadrow rfl (eval_of e) (HB0.out.ext hx.ext) _ Tryz.underlying23 rfl (by kernel_rfl) (hK w1 (ExtD.refl _))
    | 1, ho =>
      obtain rfl := Option.some.inj ho
      have e := E1 0 7 (by decide) (getD_up (hdep ⟨0, .data⟩ (by simp) rfl)) rfl (by simp)
      refine op_callD (G := fun v _ => v = .agg #[.int .i64 p.tick, .int .i64 p.clock, .int .i64 p.site, .int .i64 p.seq]) rfl (by simp [eval_of e]) (fun _ _ => by kernel_rfl) ((parts_D p w1).mono fun e w' h => ⟨_, h.1, h.2, rfl⟩) (fun v w' h g => ?_)
      subst g
      exact hK w' h
    | 2, ho =>
      obtain rfl := Option.some.inj ho
      have e := E0 3 (by kernel_rfl)
      simp only [List.getElem?_toArray, List.getElem?_cons_zero, List.getElem?_cons_succ] at e
      exact op_loadrow rfl (eval_of e) (HB1.out.ext hx.ext) _ Tryz.underlying23 rfl (by kernel_rfl) (hK w1 (ExtD.refl _))
    | 3, ho =>
      obtain rfl := Option.some.inj ho
      have e := E1 2 9 (by decide) (getD_up (hdep ⟨2, .data⟩ (by simp) rfl)) rfl (by simp)
      refine op_callD (G := fun v _ => v = .agg #[.int .i64 q.tick, .int .i64 q.clock, .int .i64 q.site, .int .i64 q.seq]) rfl (by simp [eval_of e]) (fun _ _ => by kernel_rfl) ((parts_D q w1).mono fun e w' h => ⟨_, h.1, h.2, rfl⟩) (fun v w' h g => ?_)
      subst g
      exact hK w' h
    | i + 4, ho => omega
  · rintro ⟨g0, g1⟩ W1 hx hl0 hl1 A0 A1 hne
    simp only [List.length_cons, List.length_nil, fillAllN, dstOf, Act.put, List.getElem?_toArray, List.getElem?_cons_zero, List.getElem?_cons_succ, Option.bind_some, List.setIfInBounds_toArray, List.set_cons_zero, List.set_cons_succ, box2V]
    have HX1 := Lib.hid (HX0.out.trans hx)
    have d0 := A0.cell 0
    have d1 := A0.cell 1
    have d2 := A0.cell 2
    have d3 := A0.cell 3
    have e0 := A1.cell 0
    have e1 := A1.cell 1
    have e2 := A1.cell 2
    have e3 := A1.cell 3
    have l0 := A0.lt
    have l1 := A1.lt
    simp only [List.getElem?_cons_zero, List.getElem?_cons_succ] at d0 d1 d2 d3 e0 e1 e2 e3
    clear A0 A1 hx hl0 hl1 hne
    go_upto_region 2 with fail
    refine wp_region_nearD_tail 20 hm (by kernel_rfl) ?_
    simp only [List.take_succ_cons, List.take_zero, List.drop_succ_cons, List.drop_zero]
    repeat (go_big_quiet_step ((go_at_call 100; exact nearD_same (Compare_any _ _ _))))
    refine wpQuiet_nil ?_
    intro w1 hw1
    have HY := Lib.hid (HX1.out.trans (ExtD.of_nearD hw1))
    clear hw1 d0 d1 d2 d3 e0 e1 e2 e3 l0 l1 hG
    generalize hc0 : cmpI p.tick q.tick = c0
    generalize hc1 : cmpI p.clock q.clock = c1
    generalize hc2 : cmpI p.site q.site = c2
    generalize hc3 : cmpI p.seq q.seq = c3
    have HC := Lib.hid (show orL [c0, c1, c2, c3] = cmpS p q by rw [← hc0, ← hc1, ← hc2, ← hc3]; rfl)
    clear hc0 hc1 hc2 hc3
    have HO := Lib.hid (order_any _ 4 [c0, c1, c2, c3] 4 _ (w1.alloc (.cells ([c0, c1, c2, c3].map (Value.int .i64)).toArray 3)) (sv_new w1 [c0, c1, c2, c3] (by simp)) (Nat.le_refl _) rfl)
    have HX2 := Lib.hid (HY.out.alloc (.cells ([c0, c1, c2, c3].map (Value.int .i64)).toArray 3))
    go_wp2_with (first
      | (refine wpList_buildRow rfl 83 3 31 rfl 1 (by decide) (by decide) ([.int .i64 c0, .int .i64 c1, .int .i64 c2, .int .i64 c3]) rfl rfl Tryz.underlying83 (by kernel_rfl) (by kernel_rfl) ?_)
      | (go_at_call 99; refine HO.out.mono ?_; rintro e w' ⟨rfl, rfl⟩))
    go_ret
    exact ⟨ret_int HC.out, HX2.out⟩
def cmpE (x y : Ed) : Int := orL [cmpS x.st y.st, cmpV (numsE x) (numsE y)]
theorem cmpE_eq (x y : Ed) : cmpE x y = cmpV (numsE x) (numsE y) := by
  have h1 : ∀ r r' : List Int, cmpV (x.st.tick :: x.st.clock :: x.st.site :: x.st.seq :: r) (y.st.tick :: y.st.clock :: y.st.site :: y.st.seq :: r') = orI (cmpI x.st.tick y.st.tick) (orI (cmpI x.st.clock y.st.clock) (orI (cmpI x.st.site y.st.site) (orI (cmpI x.st.seq y.st.seq) (cmpV r r')))) := fun r r' => by rw [cmpV_cons, cmpV_cons, cmpV_cons, cmpV_cons]
  have h2 := h1 [] []
  unfold cmpE
  rw [cmpS_eq]
  unfold numsS numsE
  rw [h2, h1, cmpV_self]
  generalize cmpV _ _ = r
  generalize cmpI x.st.tick y.st.tick = c0
  generalize cmpI x.st.clock y.st.clock = c1
  generalize cmpI x.st.site y.st.site = c2
  generalize cmpI x.st.seq y.st.seq = c3
  simp only [orL]
  unfold orI
  repeat' split
  all_goals omega
end Go.Proofs.YtlinhgannajfpaaGreatDoor

/- edit.Compare. -/
namespace Go.Proofs.YtlinhgannajfpaaGreatDoor
open Go Go.RowKit

set_option maxRecDepth 100000 in
set_option maxHeartbeats 8000000 in
theorem CompareEd_any (x y : Ed) (w : World) :
    Calls Tryz.prog 19 #[.agg #[.int .i64 x.st.tick, .int .i64 x.st.clock, .int .i64 x.st.site, .int .i64 x.st.seq, .int .i64 x.kind, .int .i64 x.box.lo.x, .int .i64 x.box.lo.y, .int .i64 x.box.lo.z, .int .i64 x.box.hi.x, .int .i64 x.box.hi.y, .int .i64 x.box.hi.z, .int .i64 x.at_.x, .int .i64 x.at_.y, .int .i64 x.at_.z, .int .i64 x.turn, .int .i64 x.cell, .int .i64 x.size], .agg #[.int .i64 y.st.tick, .int .i64 y.st.clock, .int .i64 y.st.site, .int .i64 y.st.seq, .int .i64 y.kind, .int .i64 y.box.lo.x, .int .i64 y.box.lo.y, .int .i64 y.box.lo.z, .int .i64 y.box.hi.x, .int .i64 y.box.hi.y, .int .i64 y.box.hi.z, .int .i64 y.at_.x, .int .i64 y.at_.y, .int .i64 y.at_.z, .int .i64 y.turn, .int .i64 y.cell, .int .i64 y.size]] w fun e w' => e = .returned (.int .i64 (cmpV (numsE x) (numsE y))) ∧ ExtD w w' := by
  have hm := mixed
  have B0 := (Arr.new w 29 [.int .i64 x.st.tick, .int .i64 x.st.clock, .int .i64 x.st.site, .int .i64 x.st.seq, .int .i64 x.kind, .int .i64 x.box.lo.x, .int .i64 x.box.lo.y, .int .i64 x.box.lo.z, .int .i64 x.box.hi.x, .int .i64 x.box.hi.y, .int .i64 x.box.hi.z, .int .i64 x.at_.x, .int .i64 x.at_.y, .int .i64 x.at_.z, .int .i64 x.turn, .int .i64 x.cell, .int .i64 x.size]).alloc (.cells #[.int .i64 y.st.tick, .int .i64 y.st.clock, .int .i64 y.st.site, .int .i64 y.st.seq, .int .i64 y.kind, .int .i64 y.box.lo.x, .int .i64 y.box.lo.y, .int .i64 y.box.lo.z, .int .i64 y.box.hi.x, .int .i64 y.box.hi.y, .int .i64 y.box.hi.z, .int .i64 y.at_.x, .int .i64 y.at_.y, .int .i64 y.at_.z, .int .i64 y.turn, .int .i64 y.cell, .int .i64 y.size] 29)
  have B1 := Arr.new (w.alloc (.cells #[.int .i64 x.st.tick, .int .i64 x.st.clock, .int .i64 x.st.site, .int .i64 x.st.seq, .int .i64 x.kind, .int .i64 x.box.lo.x, .int .i64 x.box.lo.y, .int .i64 x.box.lo.z, .int .i64 x.box.hi.x, .int .i64 x.box.hi.y, .int .i64 x.box.hi.z, .int .i64 x.at_.x, .int .i64 x.at_.y, .int .i64 x.at_.z, .int .i64 x.turn, .int .i64 x.cell, .int .i64 x.size] 29)) 29 [.int .i64 y.st.tick, .int .i64 y.st.clock, .int .i64 y.st.site, .int .i64 y.st.seq, .int .i64 y.kind, .int .i64 y.box.lo.x, .int .i64 y.box.lo.y, .int .i64 y.box.lo.z, .int .i64 y.box.hi.x, .int .i64 y.box.hi.y, .int .i64 y.box.hi.z, .int .i64 y.at_.x, .int .i64 y.at_.y, .int .i64 y.at_.z, .int .i64 y.turn, .int .i64 y.cell, .int .i64 y.size]
  rw [World.size_alloc_] at B1
  have hx0 : ExtD w ((w.alloc (.cells #[.int .i64 x.st.tick, .int .i64 x.st.clock, .int .i64 x.st.site, .int .i64 x.st.seq, .int .i64 x.kind, .int .i64 x.box.lo.x, .int .i64 x.box.lo.y, .int .i64 x.box.lo.z, .int .i64 x.box.hi.x, .int .i64 x.box.hi.y, .int .i64 x.box.hi.z, .int .i64 x.at_.x, .int .i64 x.at_.y, .int .i64 x.at_.z, .int .i64 x.turn, .int .i64 x.cell, .int .i64 x.size] 29)).alloc (.cells #[.int .i64 y.st.tick, .int .i64 y.st.clock, .int .i64 y.st.site, .int .i64 y.st.seq, .int .i64 y.kind, .int .i64 y.box.lo.x, .int .i64 y.box.lo.y, .int .i64 y.box.lo.z, .int .i64 y.box.hi.x, .int .i64 y.box.hi.y, .int .i64 y.box.hi.z, .int .i64 y.at_.x, .int .i64 y.at_.y, .int .i64 y.at_.z, .int .i64 y.turn, .int .i64 y.cell, .int .i64 y.size] 29)) := ((ExtD.refl w).alloc _).alloc _
  have HB0 := Lib.hid B0; have HB1 := Lib.hid B1; have HX0 := Lib.hid hx0
  clear B0 B1 hx0
  go_enter Tryz.func19, Tryz.ntmps19
  go_upto_region 1 with fail
  obtain ⟨W0, hW⟩ : ∃ W, W = (w.alloc (.cells #[.int .i64 x.st.tick, .int .i64 x.st.clock, .int .i64 x.st.site, .int .i64 x.st.seq, .int .i64 x.kind, .int .i64 x.box.lo.x, .int .i64 x.box.lo.y, .int .i64 x.box.lo.z, .int .i64 x.box.hi.x, .int .i64 x.box.hi.y, .int .i64 x.box.hi.z, .int .i64 x.at_.x, .int .i64 x.at_.y, .int .i64 x.at_.z, .int .i64 x.turn, .int .i64 x.cell, .int .i64 x.size] 29)).alloc (.cells #[.int .i64 y.st.tick, .int .i64 y.st.clock, .int .i64 y.st.site, .int .i64 y.st.seq, .int .i64 y.kind, .int .i64 y.box.lo.x, .int .i64 y.box.lo.y, .int .i64 y.box.lo.z, .int .i64 y.box.hi.x, .int .i64 y.box.hi.y, .int .i64 y.box.hi.z, .int .i64 y.at_.x, .int .i64 y.at_.y, .int .i64 y.at_.z, .int .i64 y.turn, .int .i64 y.cell, .int .i64 y.size] 29) := ⟨_, rfl⟩
  rw [← hW] at HB0 HB1 HX0
  rw [← hW]
  clear hW
  refine wp_region_relD (w := W0) (fun i v w' => match i with
      | 0 => v = .pointer (some ⟨w.heap.size, 0, none⟩)
      | 1 => v = .agg #[.int .i64 x.st.tick, .int .i64 x.st.clock, .int .i64 x.st.site, .int .i64 x.st.seq]
      | 2 => v = .pointer (some ⟨w.heap.size + 1, 0, none⟩)
      | 3 => v = .agg #[.int .i64 y.st.tick, .int .i64 y.st.clock, .int .i64 y.st.site, .int .i64 y.st.seq]
      | 4 => v = .int .i64 (cmpS x.st y.st)
      | 5 => v = .agg #[.int .i64 x.st.tick, .int .i64 x.st.clock, .int .i64 x.st.site, .int .i64 x.st.seq, .int .i64 x.kind, .int .i64 x.box.lo.x, .int .i64 x.box.lo.y, .int .i64 x.box.lo.z, .int .i64 x.box.hi.x, .int .i64 x.box.hi.y, .int .i64 x.box.hi.z, .int .i64 x.at_.x, .int .i64 x.at_.y, .int .i64 x.at_.z, .int .i64 x.turn, .int .i64 x.cell, .int .i64 x.size]
      | 6 => ∃ A' c', v = .slice A' 17 c' ∧ Sv w' w'.heap.size 1 A' c' (rowsI (numsE x))
      | 7 => v = .agg #[.int .i64 y.st.tick, .int .i64 y.st.clock, .int .i64 y.st.site, .int .i64 y.st.seq, .int .i64 y.kind, .int .i64 y.box.lo.x, .int .i64 y.box.lo.y, .int .i64 y.box.lo.z, .int .i64 y.box.hi.x, .int .i64 y.box.hi.y, .int .i64 y.box.hi.z, .int .i64 y.at_.x, .int .i64 y.at_.y, .int .i64 y.at_.z, .int .i64 y.turn, .int .i64 y.cell, .int .i64 y.size]
      | 8 => ∃ A' c', v = .slice A' 17 c' ∧ Sv w' w'.heap.size 1 A' c' (rowsI (numsE y))
      | 9 => v = .int .i64 (cmpV (numsE x) (numsE y))
      | 10 => ∃ b, v = .slice (some ⟨b, 0, none⟩) 2 2 ∧ Sv w' w'.heap.size 1 (some ⟨b, 0, none⟩) 2 (rowsI [cmpS x.st y.st, cmpV (numsE x) (numsE y)])
      | 11 => v = .int .i64 (cmpE x y)
      | 12 => v = .int .i64 (cmpE x y)
      | _ => True) hm (by kernel_rfl) (by kernel_rfl) rfl ?_ ?_ ?_
  · intro i v w1 w2 hx h
    match i, h with
    | 0, h => exact h
    | 1, h => exact h
    | 2, h => exact h
    | 3, h => exact h
    | 4, h => exact h
    | 5, h => exact h
    | 6, h => exact (by obtain ⟨A', c', k1, k2⟩ := h; exact ⟨A', c', k1, k2.ext hx⟩)
    | 7, h => exact h
    | 8, h => exact (by obtain ⟨A', c', k1, k2⟩ := h; exact ⟨A', c', k1, k2.ext hx⟩)
    | 9, h => exact h
    | 10, h => exact (by obtain ⟨b, k1, k2⟩ := h; exact ⟨b, k1, k2.ext hx⟩)
    | 11, h => exact h
    | 12, h => exact h
    | i + 13, h => exact trivial
  · intro i o ho b w1 hx hmiss hdep K hK
    match i, ho with
    | 0, ho =>
      obtain rfl := Option.some.inj ho
      refine want_none rfl ?_
      have e2 : b.tmps[2]? = some (.pointer (some ⟨w.heap.size, 0, none⟩)) := hmiss 2 rfl
      exact op_run (by unfold execOp; simp [e2, Act.eval, go_sem]) (hK _ w1 (ExtD.refl _) rfl)
    | 1, ho =>
      obtain rfl := Option.some.inj ho
      refine want_none rfl ?_
      obtain ⟨v5, g5, e5⟩ := hdep 0 rfl
      have g5 : v5 = .pointer (some ⟨w.heap.size, 0, none⟩) := g5
      subst g5
      have e5 := e5 5 rfl
      refine wp_load_mid 23 (.tmp 5) rfl _ 0 (eval_of e5) [.int .i64 x.st.tick, .int .i64 x.st.clock, .int .i64 x.st.site, .int .i64 x.st.seq] _ (fun j v hv => ?_) Tryz.underlying23 rfl (by kernel_rfl) (hK _ w1 (ExtD.refl _) rfl)
      rw [Nat.zero_add, (HB0.out.ext hx.ext).cell]
      show ([.int .i64 x.st.tick, .int .i64 x.st.clock, .int .i64 x.st.site, .int .i64 x.st.seq] ++ [.int .i64 x.kind, .int .i64 x.box.lo.x, .int .i64 x.box.lo.y, .int .i64 x.box.lo.z, .int .i64 x.box.hi.x, .int .i64 x.box.hi.y, .int .i64 x.box.hi.z, .int .i64 x.at_.x, .int .i64 x.at_.y, .int .i64 x.at_.z, .int .i64 x.turn, .int .i64 x.cell, .int .i64 x.size])[j]? = some v
      rw [List.getElem?_append_left (List.getElem?_eq_some_iff.1 hv).1]
      exact hv
    | 2, ho =>
      obtain rfl := Option.some.inj ho
      refine want_none rfl ?_
      have e3 : b.tmps[3]? = some (.pointer (some ⟨w.heap.size + 1, 0, none⟩)) := hmiss 3 rfl
      exact op_run (by unfold execOp; simp [e3, Act.eval, go_sem]) (hK _ w1 (ExtD.refl _) rfl)
    | 3, ho =>
      obtain rfl := Option.some.inj ho
      refine want_none rfl ?_
      obtain ⟨v7, g7, e7⟩ := hdep 2 rfl
      have g7 : v7 = .pointer (some ⟨w.heap.size + 1, 0, none⟩) := g7
      subst g7
      have e7 := e7 7 rfl
      refine wp_load_mid 23 (.tmp 7) rfl _ 0 (eval_of e7) [.int .i64 y.st.tick, .int .i64 y.st.clock, .int .i64 y.st.site, .int .i64 y.st.seq] _ (fun j v hv => ?_) Tryz.underlying23 rfl (by kernel_rfl) (hK _ w1 (ExtD.refl _) rfl)
      rw [Nat.zero_add, (HB1.out.ext hx.ext).cell]
      show ([.int .i64 y.st.tick, .int .i64 y.st.clock, .int .i64 y.st.site, .int .i64 y.st.seq] ++ [.int .i64 y.kind, .int .i64 y.box.lo.x, .int .i64 y.box.lo.y, .int .i64 y.box.lo.z, .int .i64 y.box.hi.x, .int .i64 y.box.hi.y, .int .i64 y.box.hi.z, .int .i64 y.at_.x, .int .i64 y.at_.y, .int .i64 y.at_.z, .int .i64 y.turn, .int .i64 y.cell, .int .i64 y.size])[j]? = some v
      rw [List.getElem?_append_left (List.getElem?_eq_some_iff.1 hv).1]
      exact hv
    | 4, ho =>
      obtain rfl := Option.some.inj ho
      refine want_none rfl ?_
      obtain ⟨v6, g6, e6⟩ := hdep 1 rfl
      have g6 : v6 = .agg #[.int .i64 x.st.tick, .int .i64 x.st.clock, .int .i64 x.st.site, .int .i64 x.st.seq] := g6
      subst g6
      have e6 := e6 6 rfl
      obtain ⟨v8, g8, e8⟩ := hdep 3 rfl
      have g8 : v8 = .agg #[.int .i64 y.st.tick, .int .i64 y.st.clock, .int .i64 y.st.site, .int .i64 y.st.seq] := g8
      subst g8
      have e8 := e8 8 rfl
      have hc := (stampCompare_any x.st y.st w1).mono (R' := fun e w' => ∃ v, e = .returned v ∧ ExtD w1 w' ∧ v = .int .i64 (cmpS x.st y.st)) (fun e w' h => ⟨_, h.1, h.2, rfl⟩)
      exact op_callD rfl (by first | (simp [eval_of e6, eval_of e8]; done) | (simp [eval_of e6, eval_of e8]; rfl)) (fun _ _ => by kernel_rfl) hc (fun v w' h g => hK v w' h g)
    | 5, ho =>
      obtain rfl := Option.some.inj ho
      refine want_none rfl ?_
      have e2 : b.tmps[2]? = some (.pointer (some ⟨w.heap.size, 0, none⟩)) := hmiss 2 rfl
      exact op_loadrow rfl (eval_of e2) (HB0.out.ext hx.ext) _ Tryz.underlying29 rfl (by kernel_rfl) (hK _ w1 (ExtD.refl _) rfl)
    | 6, ho =>
      obtain rfl := Option.some.inj ho
      refine want_none rfl ?_
      obtain ⟨v10, g10, e10⟩ := hdep 5 rfl
      have g10 : v10 = .agg #[.int .i64 x.st.tick, .int .i64 x.st.clock, .int .i64 x.st.site, .int .i64 x.st.seq, .int .i64 x.kind, .int .i64 x.box.lo.x, .int .i64 x.box.lo.y, .int .i64 x.box.lo.z, .int .i64 x.box.hi.x, .int .i64 x.box.hi.y, .int .i64 x.box.hi.z, .int .i64 x.at_.x, .int .i64 x.at_.y, .int .i64 x.at_.z, .int .i64 x.turn, .int .i64 x.cell, .int .i64 x.size] := g10
      subst g10
      have e10 := e10 10 rfl
      have hc := (numbers_any x w1).mono (R' := fun e w' => ∃ v, e = .returned v ∧ ExtD w1 w' ∧ ∃ A' c', v = .slice A' 17 c' ∧ Sv w' w'.heap.size 1 A' c' (rowsI (numsE x))) (fun e w' ⟨A', c', h1, h2, h3⟩ => ⟨_, h1, h3, A', c', rfl, h2⟩)
      exact op_callD rfl (by first | (simp [eval_of e10]; done) | (simp [eval_of e10]; rfl)) (fun _ _ => by kernel_rfl) hc (fun v w' h g => hK v w' h g)
    | 7, ho =>
      obtain rfl := Option.some.inj ho
      refine want_none rfl ?_
      have e3 : b.tmps[3]? = some (.pointer (some ⟨w.heap.size + 1, 0, none⟩)) := hmiss 3 rfl
      exact op_loadrow rfl (eval_of e3) (HB1.out.ext hx.ext) _ Tryz.underlying29 rfl (by kernel_rfl) (hK _ w1 (ExtD.refl _) rfl)
    | 8, ho =>
      obtain rfl := Option.some.inj ho
      refine want_none rfl ?_
      obtain ⟨v12, g12, e12⟩ := hdep 7 rfl
      have g12 : v12 = .agg #[.int .i64 y.st.tick, .int .i64 y.st.clock, .int .i64 y.st.site, .int .i64 y.st.seq, .int .i64 y.kind, .int .i64 y.box.lo.x, .int .i64 y.box.lo.y, .int .i64 y.box.lo.z, .int .i64 y.box.hi.x, .int .i64 y.box.hi.y, .int .i64 y.box.hi.z, .int .i64 y.at_.x, .int .i64 y.at_.y, .int .i64 y.at_.z, .int .i64 y.turn, .int .i64 y.cell, .int .i64 y.size] := g12
      subst g12
      have e12 := e12 12 rfl
      have hc := (numbers_any y w1).mono (R' := fun e w' => ∃ v, e = .returned v ∧ ExtD w1 w' ∧ ∃ A' c', v = .slice A' 17 c' ∧ Sv w' w'.heap.size 1 A' c' (rowsI (numsE y))) (fun e w' ⟨A', c', h1, h2, h3⟩ => ⟨_, h1, h3, A', c', rfl, h2⟩)
      exact op_callD rfl (by first | (simp [eval_of e12]; done) | (simp [eval_of e12]; rfl)) (fun _ _ => by kernel_rfl) hc (fun v w' h g => hK v w' h g)
    | 9, ho =>
      obtain rfl := Option.some.inj ho
      refine want_none rfl ?_
      obtain ⟨v11, ⟨A1, c1, k1, s1⟩, e11⟩ := hdep 6 rfl
      have e11 := e11 11 rfl
      subst k1
      obtain ⟨v13, ⟨A2, c2, k2, s2⟩, e13⟩ := hdep 8 rfl
      have e13 := e13 13 rfl
      subst k2
      have hc := (CompareI_any A1 c1 (numsE x) A2 c2 (numsE y) 17 w1.heap.size w1 s1 s2 (Nat.le_refl _) rfl rfl).mono (R' := fun e w' => ∃ v, e = .returned v ∧ ExtD w1 w' ∧ v = .int .i64 (cmpV (numsE x) (numsE y))) (fun e w' h => ⟨_, h.1, (ExtD.refl _).same h.2, rfl⟩)
      exact op_callD rfl (by first | (simp [eval_of e11, eval_of e13]; done) | (simp [eval_of e11, eval_of e13]; rfl)) (fun _ _ => by kernel_rfl) hc (fun v w' h g => hK v w' h g)
    | 10, ho =>
      obtain rfl := Option.some.inj ho
      refine want_none rfl ?_
      obtain ⟨v9, g9, e9⟩ := hdep 4 rfl
      have g9 : v9 = .int .i64 (cmpS x.st y.st) := g9
      subst g9
      have e9 := e9 9 rfl
      obtain ⟨v14, g14, e14⟩ := hdep 9 rfl
      have g14 : v14 = .int .i64 (cmpV (numsE x) (numsE y)) := g14
      subst g14
      have e14 := e14 14 rfl
      exact op_run (v := .slice (some ⟨w1.heap.size, 0, none⟩) 2 2) (w2 := w1.alloc (.cells (([cmpS x.st y.st, cmpV (numsE x) (numsE y)] : List Int).map (Value.int .i64)).toArray 3)) (by unfold execOp; simp [e9, e14, Act.eval, go_sem]) (hK _ _ ((ExtD.refl w1).alloc _) ⟨_, rfl, sv_new w1 [cmpS x.st y.st, cmpV (numsE x) (numsE y)] (by simp)⟩)
    | 11, ho =>
      obtain rfl := Option.some.inj ho
      refine want_none rfl ?_
      obtain ⟨v15, ⟨b1, k1, k2⟩, e15⟩ := hdep 10 rfl
      have e15 := e15 15 rfl
      subst k1
      have hc := (Or_any (some ⟨b1, 0, none⟩) 2 [cmpS x.st y.st, cmpV (numsE x) (numsE y)] w1.heap.size w1 k2 (Nat.le_refl _)).mono (R' := fun e w' => ∃ v, e = .returned v ∧ ExtD w1 w' ∧ v = .int .i64 (cmpE x y)) (fun e w' h => ⟨_, h.1, (ExtD.refl _).same h.2, rfl⟩)
      exact op_callD rfl (by first | (simp [eval_of e15]; done) | (simp [eval_of e15]; rfl)) (fun _ _ => by kernel_rfl) hc (fun v w' h g => hK v w' h g)
    | 12, ho =>
      obtain rfl := Option.some.inj ho
      refine want_none rfl ?_
      obtain ⟨v16, g16, e16⟩ := hdep 11 rfl
      have g16 : v16 = .int .i64 (cmpE x y) := g16
      subst g16
      have e16 := e16 16 rfl
      exact op_assign rfl (eval_of e16) (hK _ w1 (ExtD.refl _) rfl)
    | i + 13, ho => cases ho
  · intro V W2 hx hg
    have q0 : V 12 = .int .i64 (cmpE x y) := hg 12 (by decide)
    simp only [List.length_cons, List.length_nil, fillAllN, dstOf, Act.put, List.getElem?_toArray, List.getElem?_cons_zero, List.getElem?_cons_succ, Option.bind_some, List.setIfInBounds_toArray, List.set_cons_zero, List.set_cons_succ, q0]
    clear hg q0
    go_wp2
    go_ret
    exact ⟨ret_int (cmpE_eq x y), HX0.out.trans hx⟩
end Go.Proofs.YtlinhgannajfpaaGreatDoor
