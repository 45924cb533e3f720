/- YtcfebfblmmbeaaaDoorRk · YtcfebfblmmbeaaaDoorRl · YtcfebfblmmbeaaaDoorSl · YtcfebfblmmbeaaaDoorRm · YtcfebfblmmbeaaaDoorRn · YtcfebfblmmbeaaaDoorRo · YtcfebfblmmbeaaaDoorRp -/
import Derived.Test.YtcfebfblmmbeaaaDoorZa6
/- The reference's Numbers and Compare. -/
namespace Go.Proofs.YtcfebfblmmbeaaaDoor
open Go Go.RowKit

theorem Arr.part {w : World} {b : Nat} {t : TypeId} {vs : List Value} (h : Arr w b t vs) (o : Nat) (cs : List Value) (hc : ∀ (j : Nat) (v : Value), cs[j]? = some v → vs[o + j]? = some v) : w.rangeAt b o cs := fun j v hv => by
  rw [h.cell]; exact hc j v hv
def RetNu (x : Ed) (w : World) (en : Ending) (w' : World) : Prop := ∃ b, en = .returned (.slice (some ⟨b, 0, none⟩) 17 17) ∧ Arr w' b 3 x.cells ∧ Ext w w' ∧ w.heap.size ≤ b
set_option maxRecDepth 100000 in
set_option maxHeartbeats 4000000 in
theorem refNumbers_any (x : Ed) (w : World) : Calls Tryd.prog 64 #[.agg x.cells.toArray] w (RetNu x w) := by
  have HB0 := Lib.hid (Arr.new w 32 x.cells)
  have HX0 := Lib.hid (show Ext w (w.alloc (.cells x.cells.toArray 32)) from (Ext.refl w).alloc _)
  go_enter Tryd.func64, Tryd.ntmps64
  go_upto_region 1 with fail
  have HR1 := Lib.hid (HB0.out.part 0 [.int .i64 x.st.tick, .int .i64 x.st.clock, .int .i64 x.st.site, .int .i64 x.st.seq] (fun j v hv => by
    match j, hv with
    | 0, h => exact h
    | 1, h => exact h
    | 2, h => exact h
    | 3, h => exact h))
  go_upto_region 2 with (first
    | (with_reducible refine wpList_load_mid rfl 26 (.tmp 5) rfl w.heap.size 0 rfl [.int .i64 x.st.tick, .int .i64 x.st.clock, .int .i64 x.st.site, .int .i64 x.st.seq] _ HR1.out Tryd.underlying26 rfl (by kernel_rfl) ?_)
    | (refine wpList_store_blk 26 (.tmp 3) (.tmp 6) rfl rfl (Arr.new _ 26 [.int .i64 0, .int .i64 0, .int .i64 0, .int .i64 0]) [.int .i64 x.st.tick, .int .i64 x.st.clock, .int .i64 x.st.site, .int .i64 x.st.seq] rfl rfl (by kernel_rfl) rfl rfl ?_))
  obtain ⟨W1, hW⟩ : ∃ W, W = (w.alloc (.cells x.cells.toArray 32)).alloc (.cells ([.int .i64 x.st.tick, .int .i64 x.st.clock, .int .i64 x.st.site, .int .i64 x.st.seq] : List Value).toArray 26) := ⟨_, rfl⟩
  have HC0 := Lib.hid (show Arr W1 w.heap.size 32 x.cells by rw [hW]; exact HB0.out.alloc _)
  have HC1 := Lib.hid (show Arr W1 (w.heap.size + 1) 26 [.int .i64 x.st.tick, .int .i64 x.st.clock, .int .i64 x.st.site, .int .i64 x.st.seq] by rw [hW]; exact Arr.new1 w _ _ _)
  have HX1 := Lib.hid (show Ext w W1 by rw [hW]; exact HX0.out.alloc _)
  have hsz : W1.heap.size = w.heap.size + 2 := by rw [hW]; simp
  rw [← hW]
  clear hW
  have HR2 := Lib.hid (HC0.out.part 5 [.int .i64 x.box.lo.x, .int .i64 x.box.lo.y, .int .i64 x.box.lo.z, .int .i64 x.box.hi.x, .int .i64 x.box.hi.y, .int .i64 x.box.hi.z] (fun j v hv => by
    match j, hv with
    | 0, h => exact h
    | 1, h => exact h
    | 2, h => exact h
    | 3, h => exact h
    | 4, h => exact h
    | 5, h => exact h))
  go_upto_region 3 with (first
    | (with_reducible refine wpList_load_mid rfl 30 (.tmp 7) rfl w.heap.size 5 rfl [.int .i64 x.box.lo.x, .int .i64 x.box.lo.y, .int .i64 x.box.lo.z, .int .i64 x.box.hi.x, .int .i64 x.box.hi.y, .int .i64 x.box.hi.z] _ HR2.out Tryd.underlying30 rfl (by kernel_rfl) ?_)
    | (refine wpList_store_blk 30 (.tmp 4) (.tmp 8) rfl rfl (Arr.new _ 30 [.int .i64 0, .int .i64 0, .int .i64 0, .int .i64 0, .int .i64 0, .int .i64 0]) [.int .i64 x.box.lo.x, .int .i64 x.box.lo.y, .int .i64 x.box.lo.z, .int .i64 x.box.hi.x, .int .i64 x.box.hi.y, .int .i64 x.box.hi.z] rfl rfl (by kernel_rfl) rfl rfl ?_))
  obtain ⟨W2, hW⟩ : ∃ W, W = W1.alloc (.cells ([.int .i64 x.box.lo.x, .int .i64 x.box.lo.y, .int .i64 x.box.lo.z, .int .i64 x.box.hi.x, .int .i64 x.box.hi.y, .int .i64 x.box.hi.z] : List Value).toArray 30) := ⟨_, rfl⟩
  have hx2 : Ext W1 W2 := by rw [hW]; exact (Ext.refl _).alloc _
  have HD0 := Lib.hid (HC0.out.ext hx2)
  have HD1 := Lib.hid (HC1.out.ext hx2)
  have HD2 := Lib.hid (show Arr W2 (w.heap.size + 2) 30 [.int .i64 x.box.lo.x, .int .i64 x.box.lo.y, .int .i64 x.box.lo.z, .int .i64 x.box.hi.x, .int .i64 x.box.hi.y, .int .i64 x.box.hi.z] by rw [hW, ← hsz]; exact Arr.new W1 _ _)
  have HX2 := Lib.hid (HX1.out.trans hx2)
  rw [← hW]
  clear hW hx2 hsz
  have a4 := HD0.out.cell 4
  rw [show x.cells[4]? = some (.int .i64 x.kind) from rfl] at a4
  have a11 := HD0.out.cell 11
  rw [show x.cells[11]? = some (.int .i64 x.at_.x) from rfl] at a11
  have a12 := HD0.out.cell 12
  rw [show x.cells[12]? = some (.int .i64 x.at_.y) from rfl] at a12
  have a13 := HD0.out.cell 13
  rw [show x.cells[13]? = some (.int .i64 x.at_.z) from rfl] at a13
  have a14 := HD0.out.cell 14
  rw [show x.cells[14]? = some (.int .i64 x.turn) from rfl] at a14
  have a15 := HD0.out.cell 15
  rw [show x.cells[15]? = some (.int .i64 x.cell) from rfl] at a15
  have a16 := HD0.out.cell 16
  rw [show x.cells[16]? = some (.int .i64 x.size) from rfl] at a16
  have s0 := HD1.out.cell 0
  have s1 := HD1.out.cell 1
  have s2 := HD1.out.cell 2
  have s3 := HD1.out.cell 3
  have q0 := HD2.out.cell 0
  have q1 := HD2.out.cell 1
  have q2 := HD2.out.cell 2
  have q3 := HD2.out.cell 3
  have q4 := HD2.out.cell 4
  have q5 := HD2.out.cell 5
  simp only [List.getElem?_cons_zero, List.getElem?_cons_succ] at s0 s1 s2 s3 q0 q1 q2 q3 q4 q5
  have HFIN := Lib.hid (Arr.new W2 3 x.cells)
  have HXF := Lib.hid (HX2.out.alloc (.cells x.cells.toArray 3))
  go_wp2_with fail
  go_ret
  exact ⟨W2.heap.size, rfl, HFIN.out, HXF.out, HX2.out.size⟩
end Go.Proofs.YtcfebfblmmbeaaaDoor

/- The reference's Compare. -/
namespace Go.Proofs.YtcfebfblmmbeaaaDoor
open Go Go.RowKit

theorem cells_nums (x : Ed) (k : Nat) : x.cells[k]? = ((numsE x)[k]?).map (fun v => .int .i64 v) := by
  rw [← List.getElem?_map]; rfl
set_option maxRecDepth 100000 in
set_option maxHeartbeats 4000000 in
theorem refCompare_any (x y : Ed) (w : World) : Calls Tryd.prog 50 #[.agg x.cells.toArray, .agg y.cells.toArray] w fun e w' => e = .returned (.int .i64 (cmpV (numsE x) (numsE y))) ∧ Ext w w' := by
  have hm := mixed
  have HB0 := Lib.hid ((Arr.new w 32 x.cells).alloc (.cells y.cells.toArray 32))
  have HB1 := Lib.hid (Arr.new1 w (.cells x.cells.toArray 32) 32 y.cells)
  have HX0 := Lib.hid (show Ext w ((w.alloc (.cells x.cells.toArray 32)).alloc (.cells y.cells.toArray 32)) from ((Ext.refl w).alloc _).alloc _)
  go_enter Tryd.func50, Tryd.ntmps50
  go_upto_region 1 with fail
  obtain ⟨W0, hW⟩ : ∃ W, W = (w.alloc (.cells x.cells.toArray 32)).alloc (.cells y.cells.toArray 32) := ⟨_, rfl⟩
  rw [← hW] at HB0 HB1 HX0
  rw [← hW]
  clear hW
  go_upto_region 2 with (first
    | (refine wpList_load_blk 32 (.tmp 2) rfl rfl HB0.out rfl _ Tryd.underlying32 rfl (by kernel_rfl) ?_)
    | (go_at_call 64; refine (refNumbers_any x _).mono ?_; rintro e W1 ⟨b1, rfl, ha1, hx1, _⟩))
  have HA1 := Lib.hid ha1; have HX1 := Lib.hid (HX0.out.trans hx1); have HB11 := Lib.hid (HB1.out.ext hx1)
  clear ha1 hx1
  go_upto_region 3 with (first
    | (refine wpList_load_blk 32 (.tmp 3) rfl rfl HB11.out rfl _ Tryd.underlying32 rfl (by kernel_rfl) ?_)
    | (go_at_call 64; refine (refNumbers_any y _).mono ?_; rintro e W2 ⟨b2, rfl, ha2, hx2, _⟩))
  have HA2 := Lib.hid ha2; have HX2 := Lib.hid (HX1.out.trans hx2); have HA12 := Lib.hid (HA1.out.ext hx2)
  clear ha2 hx2
  go_wp2_with fail
  go_loopw [7] (fun i wr => ∃ k : Nat, i = .int .i64 k ∧ k ≤ 17 ∧ (∀ j, j < k → (numsE x)[j]? = (numsE y)[j]?) ∧ Ext W2 wr) (fun i _ => 17 - (intOf i).toNat)
  case atStart => exact ⟨0, rfl, by omega, fun j hj => by omega, Ext.refl _⟩
  case round =>
    obtain ⟨k, rfl, hk, hg, hx⟩ := hrel
    have HG := Lib.hid hg
    by_cases hlt : k < 17
    · obtain ⟨u, hu⟩ : ∃ u, (numsE x)[k]? = some u := ⟨_, List.getElem?_eq_getElem (show k < (numsE x).length from hlt)⟩
      obtain ⟨v, hv⟩ : ∃ v, (numsE y)[k]? = some v := ⟨_, List.getElem?_eq_getElem (show k < (numsE y).length from hlt)⟩
      have c1 := (HA12.out.ext hx).cell k
      have c2 := (HA2.out.ext hx).cell k
      rw [cells_nums, hu] at c1
      rw [cells_nums, hv] at c2
      simp only [Option.map_some] at c1 c2
      have l1 := (HA12.out.ext hx).lt
      have l2 := (HA2.out.ext hx).lt
      have HX := Lib.hid hx
      have HU := Lib.hid hu; have HV := Lib.hid hv
      have hG := near_old
      have hk0 : 0 ≤ (k : Int) := by omega
      have hk1 : ¬ ((17 : Int) ≤ (k : Int)) := by omega
      have hk2 : (k : Int) < 17 := by omega
      clear hg hx hu hv
      go_upto_region 6 with fail
      refine wp_region_near (by assumption) (by kernel_rfl) ?_
      repeat (go_big_quiet_step (fail))
      refine wpQuiet_nil ?_
      intro w1 hw1
      have hy := Ext.of_near hw1
      clear hw1
      have HY := Lib.hid hy
      have l1' := Nat.lt_of_lt_of_le l1 hy.size
      have l2' := Nat.lt_of_lt_of_le l2 hy.size
      have c1' := (hy.below.cell (p := ⟨b1, k, none⟩) l1).trans c1
      have c2' := (hy.below.cell (p := ⟨b2, k, none⟩) l2).trans c2
      clear c1 c2 l1 l2 hy
      by_cases h1 : u < v
      · have HC := Lib.hid (cmpV_at HG.out HU.out HV.out (by omega))
        go_wp2_with fail
        go_ret
        exact ⟨by rw [HC.out]; unfold cmpI; rw [if_pos (by omega)]; rfl, HX2.out.trans (HX.out.trans HY.out)⟩
      · have h1' : v ≤ u := by omega
        go_upto_region 8 with fail
        refine wp_region_near (by assumption) (by kernel_rfl) ?_
        repeat (go_big_quiet_step (fail))
        refine wpQuiet_nil ?_
        intro w1 hw1
        have hy := Ext.of_near hw1
        clear hw1
        have HY2 := Lib.hid hy
        by_cases h2 : v < u
        · have HC := Lib.hid (cmpV_at HG.out HU.out HV.out (by omega))
          go_wp2_with fail
          go_ret
          exact ⟨by rw [HC.out]; unfold cmpI; rw [if_neg (by omega), if_pos (by omega)]; rfl, HX2.out.trans (HX.out.trans (HY.out.trans HY2.out))⟩
        · have h3 : u = v := by omega
          have HG2 := Lib.hid (show ∀ j, j < k + 1 → (numsE x)[j]? = (numsE y)[j]? from fun j hj => by
            by_cases hjk : j < k
            · exact HG.out j hjk
            · obtain rfl : j = k := by omega
              rw [HU.out, HV.out, h3])
          have h2' : u ≤ v := by omega
          go_wp2_with fail
          go_roundw
          case rel => exact ⟨k + 1, by go_num, by omega, HG2.out, HX.out.trans (HY.out.trans HY2.out)⟩
          case measure => simp [intOf]; omega
    · obtain rfl : k = 17 := by omega
      have HE := Lib.hid (show numsE x = numsE y from List.ext_getElem? fun j => by
        by_cases hj : j < 17
        · exact HG.out j hj
        · rw [List.getElem?_eq_none (show (numsE x).length ≤ j by show 17 ≤ j; omega), List.getElem?_eq_none (show (numsE y).length ≤ j by show 17 ≤ j; omega)])
      go_wp2_with fail
      go_ret
      exact ⟨by rw [HE.out, cmpV_self]; rfl, HX2.out.trans hx⟩
end Go.Proofs.YtcfebfblmmbeaaaDoor

/- Cuts of a slice whatever its address: s[:j], s[j:]; a guarded load out of a block's middle. -/
namespace Go.Proofs.YtcfebfblmmbeaaaDoor
open Go Go.RowKit

section
variable {P : Program} {w : World}
theorem run_sliceAt {t e : TypeId} {i : TypeInfo} (ht : P.underlying t = some (.slice e)) (_hi : P.info? e = some i) (x : Value) (lo hi' : Option Value) : (Instr.sliceAt t x lo hi' none).run P w = (Instr.slice t x lo hi' none).run P w := by
  simp [Instr.sliceAt, run_underlying ht]
theorem run_slice_to {t e : TypeId} {i : TypeInfo} (ht : P.underlying t = some (.slice e)) (hi : P.info? e = some i) (A : Option Addr) (n c j : Nat) (hj : j ≤ c) :
    (Instr.sliceAt t (.slice A n c) none (some (.int .i64 j)) none).run P w = .ok (.slice A j c) w := by
  have hA : (if c = 0 then A else A.map (·.add (0 * i.size))) = A := by
    split
    · rfl
    · cases A with
      | none => rfl
      | some a => simp [Addr.add]
  simp [Instr.sliceAt, Instr.slice, run_underlying ht, sizeOf, typeInfo, hi, Instr.sliceBounds, Instr.sliceBound, asIntOf, hj]
  simpa using hA
theorem run_slice_from {t e : TypeId} {i : TypeInfo} {k : Nat} (ht : P.underlying t = some (.slice e)) (hi : P.info? e = some i) (hk : i.size = k) (A : Option Addr) (n c j : Nat) (hj : j ≤ n) :
    (Instr.sliceAt t (.slice A n c) (some (.int .i64 j)) none none).run P w = .ok (.slice (if c = j then A else A.map (·.add (j * k))) (n - j) (c - j)) w := by
  simp [Instr.sliceAt, Instr.slice, run_underlying ht, sizeOf, typeInfo, hi, Instr.sliceBounds, Instr.sliceBound, asIntOf, hk]
  intro h; omega
theorem wpList_slice_to {ops : Array Oper} {rest : List Oper} {o : Oper} {a : Act} {Q : Exit → Act → World → Prop} (hgd : o.guard = none) (t e : TypeId) (x y : Operand) (ho : o.op = .slice t x none (some y) none)
    (i : TypeInfo) (ht : P.underlying t = some (.slice e)) (hi : P.info? e = some i) (A : Option Addr) (n c j : Nat) (hx : a.eval x = .slice A n c) (hy : a.eval y = .int .i64 j) (hj : j ≤ c)
    (h : wpList P ops Q rest (a.put o.dst (.slice A j c)) w) : wpList P ops Q (o :: rest) a w := by
  refine wpList_plain hgd fun K hK' => ?_
  unfold Oper.wp
  simp [execOp, ho, hx, hy, run_slice_to ht hi A n c j hj, Result.andThen]
  exact hK' _ _ h
theorem wpList_slice_from {ops : Array Oper} {rest : List Oper} {o : Oper} {a : Act} {Q : Exit → Act → World → Prop} (hgd : o.guard = none) (t e : TypeId) (x y : Operand) (ho : o.op = .slice t x (some y) none none)
    (i : TypeInfo) (k : Nat) (ht : P.underlying t = some (.slice e)) (hi : P.info? e = some i) (hk : i.size = k) (A : Option Addr) (n c j : Nat) (hx : a.eval x = .slice A n c) (hy : a.eval y = .int .i64 j) (hj : j ≤ n)
    (h : wpList P ops Q rest (a.put o.dst (.slice (if c = j then A else A.map (·.add (j * k))) (n - j) (c - j))) w) : wpList P ops Q (o :: rest) a w := by
  refine wpList_plain hgd fun K hK' => ?_
  unfold Oper.wp
  simp [execOp, ho, hx, hy, run_slice_from ht hi hk A n c j hj, Result.andThen]
  exact hK' _ _ h
theorem wpList_load_midg {ops : Array Oper} {rest : List Oper} {op : Oper} {a : Act} {Q : Exit → Act → World → Prop} {j d : Nat} {c : Bool} (hgd : op.guard = some (j, c)) (hd : dstOf ops j = some d) (ht : a.tmps[d]? = some (.bool c)) (ty : TypeId) (x : Operand) (ho : op.op = .load ty x)
    (b o : Nat) (hx : a.eval x = .pointer (some ⟨b, o, none⟩)) (cs : List Value) (dd : TypeDesc) (hc : w.rangeAt b o cs)
    (hu : P.underlying ty = some dd) (hdd : dd.isRow = true) (hi : (P.info? ty).map (·.size) = some cs.length)
    (h : wpList P ops Q rest (a.put op.dst (.agg cs.toArray)) w) : wpList P ops Q (op :: rest) a w :=
  wpList_step fun _ hK => want_yes hgd hd ht (wp_load_mid ty x ho b o hx cs dd hc hu hdd hi (hK _ _ h))
end
end Go.Proofs.YtcfebfblmmbeaaaDoor

/- The reference's Sorted. -/
namespace Go.Proofs.YtcfebfblmmbeaaaDoor
open Go Go.RowKit

theorem IsOrd.nil : IsOrd [] [] := ⟨List.Pairwise.nil, fun _ => Iff.rfl⟩
theorem IsOrd.seen {l o : List Ed} {k : Nat} {x : Ed} (h : IsOrd (l.take k) o) (hx : l[k]? = some x) (hm : x ∈ o) : IsOrd (l.take (k + 1)) o :=
  ⟨h.srt, fun q => by
    rw [take_snocR hx, List.mem_append, List.mem_singleton, h.mem]
    exact ⟨.inl, fun e => e.elim id fun e => e ▸ (h.mem x).1 hm⟩⟩
theorem IsOrd.put {l o : List Ed} {k q : Nat} {x : Ed} (h : IsOrd (l.take k) o) (hx : l[k]? = some x) (ha : AtE o x q) (hlo : ∀ y, 0 < q → o[q - 1]? = some y → befE y x = true) : IsOrd (l.take (k + 1)) (o.take q ++ (x :: o.drop q)) :=
  ⟨ha.put h.srt hlo, fun p => by
    rw [put_mem, h.mem, take_snocR hx, List.mem_append, List.mem_singleton]
    exact or_comm⟩
set_option maxRecDepth 100000 in
set_option maxHeartbeats 8000000 in
theorem refSorted_any (A : Option Addr) (c : Nat) (l : List Ed) (w : World) (hs : Sv w w.heap.size 17 A c (rowsE l)) (hb : l.length ≤ 1034834473200) :
    Calls Tryd.prog 39 #[.slice A l.length c] w fun e w' => ∃ m, IsOrd l m ∧ RetE m w e w' := by
  have hm := mixed
  obtain ⟨i0, hi, hz0, hz1, hz2⟩ := info_parts infoEd
  have HI := Lib.hid hi; have HZ := Lib.hid hz0; have HZ1 := Lib.hid hz1; have HZ2 := Lib.hid hz2; clear hi hz0 hz1 hz2
  have HS := Lib.hid hs
  have hln : l.length ≤ 9223372036854775807 := by omega
  clear hs
  go_enter Tryd.func39, Tryd.ntmps39
  go_wp2_with fail
  go_loopw [3, 4, 5, 6] (fun ov kv _ _ wr => ∃ (k : Nat) (o : List Ed) (A1 : Option Addr) (c1 : Nat), kv = .int .i64 k ∧ k ≤ l.length ∧ ov = .slice A1 o.length c1 ∧ o.length ≤ k ∧ Sv wr wr.heap.size 17 A1 c1 (rowsE o) ∧ IsOrd (l.take k) o ∧ Ext w wr) (fun _ kv _ _ _ => l.length - (intOf kv).toNat)
  case atStart => exact ⟨0, [], none, 0, rfl, Nat.zero_le _, rfl, Nat.le_refl _, Sv.nil _ _ _, IsOrd.nil, Ext.refl _⟩
  case round =>
    obtain ⟨k, o, A1, c1, rfl, hk, rfl, hok, ho, hio, hx⟩ := hrel
    have HO := Lib.hid ho; have HX := Lib.hid hx; have HIO := Lib.hid hio
    have hoc := ho.le
    rw [rowsE_length] at hoc
    clear ho hx hio
    by_cases hlt : k < l.length
    · obtain ⟨x, hxk⟩ : ∃ x, l[k]? = some x := ⟨_, List.getElem?_eq_getElem hlt⟩
      obtain ⟨bl, ol, rfl, hbl, hra⟩ := ed_row HS.out hxk
      have HRA := Lib.hid (rangeAt_ext hra hbl HX.out)
      have HXK := Lib.hid hxk
      have HRAX := Lib.hid (fun wy (hy : Ext wr wy) => rangeAt_ext HRA.out (Nat.lt_of_lt_of_le hbl HX.out.size) hy)
      have hk0 : 0 ≤ (k : Int) := by omega
      have hk1 : ¬ ((l.length : Int) ≤ (k : Int)) := by omega
      clear hxk hra hbl
      go_wp2_with fail
      go_loopw [5] (fun av wy => ∃ q : Nat, av = .int .i64 q ∧ AtE o x q ∧ Ext wr wy) (fun av _ => (intOf av).toNat)
      case atStart => exact ⟨o.length, rfl, AtE.start o x, Ext.refl _⟩
      case round =>
        obtain ⟨q, rfl, hat, hx⟩ := hrel
        have HQO := Lib.hid hat.le
        have HQC := Lib.hid (Nat.le_trans hat.le hoc)
        have hqo := hat.le
        have HAT := Lib.hid hat; have HXQ := Lib.hid hx
        clear hat hx
        rcases Nat.eq_zero_or_pos q with hqz | hqp0
        · have hz1 : ¬ (0 < q) := by omega
          have hz2 : ¬ ((0 : Int) < (q : Int)) := by omega
          have HIO2 := Lib.hid (HIO.out.put HXK.out HAT.out (fun y h => absurd h hz1))
          clear hqz
          go_upto_region 6 with fail
          refine wp_region_rel (fun i v w' => match i with
              | 0 => v = .int .i64 (q : Int)
              | 1 => v = .bool false
              | 2 => v = .bool false
              | 3 => v = undef
              | 4 => v = undef
              | 5 => v = undef
              | 6 => v = undef
              | 7 => v = undef
              | 8 => v = undef
              | 9 => v = undef
              | 10 => v = undef
              | 11 => v = undef
              | 12 => v = undef
              | 13 => v = undef
              | 14 => v = .bool false
              | _ => True) hm (by kernel_rfl) (by kernel_rfl) rfl ?_ ?_ ?_
          · intro i v w1 w2 hx h
            match i, h with
            | 0, h => exact h
            | 1, h => exact h
            | 2, h => exact h
            | 3, h => exact h
            | 4, h => exact h
            | 5, h => exact h
            | 6, h => exact h
            | 7, h => exact h
            | 8, h => exact h
            | 9, h => exact h
            | 10, h => exact h
            | 11, h => exact h
            | 12, h => exact h
            | 13, h => exact h
            | 14, h => exact h
            | i + 15, h => exact h
          · intro i o ho b w1 hx hmiss hdep K hK
            match i, ho with
            | 0, ho =>
              obtain rfl := Option.some.inj ho
              have e5 : b.tmps[5]? = some (.int .i64 (q : Int)) := hmiss 5 rfl
              refine want_none rfl ?_
              exact op_move rfl (eval_of e5) (hK _ w1 (Ext.refl _) rfl)
            | 1, ho =>
              obtain rfl := Option.some.inj ho
              obtain ⟨v15, g15, e15⟩ := hdep 0 rfl
              have g15 : v15 = .int .i64 (q : Int) := g15
              subst g15
              have e15 := e15 15 rfl
              refine want_none rfl ?_
              exact op_run (by unfold execOp; simp [e15, Act.eval, go_sem, hz1]) (hK _ w1 (Ext.refl _) rfl)
            | 2, ho =>
              obtain rfl := Option.some.inj ho
              obtain ⟨v16, g16, e16⟩ := hdep 1 rfl
              have g16 : v16 = .bool false := g16
              subst g16
              have e16 := e16 16 rfl
              refine want_none rfl ?_
              exact op_move rfl (eval_of e16) (hK _ w1 (Ext.refl _) rfl)
            | 3, ho =>
              obtain rfl := Option.some.inj ho
              obtain ⟨vg, gg, eg⟩ := hdep 2 rfl
              have gg : vg = .bool false := gg
              subst gg
              have eg := eg 17 rfl
              exact want_no rfl rfl (.inl eg) (hK _ w1 (Ext.refl _) rfl)
            | 4, ho =>
              obtain rfl := Option.some.inj ho
              obtain ⟨vg, gg, eg⟩ := hdep 2 rfl
              have gg : vg = .bool false := gg
              subst gg
              have eg := eg 17 rfl
              exact want_no rfl rfl (.inl eg) (hK _ w1 (Ext.refl _) rfl)
            | 5, ho =>
              obtain rfl := Option.some.inj ho
              obtain ⟨vg, gg, eg⟩ := hdep 2 rfl
              have gg : vg = .bool false := gg
              subst gg
              have eg := eg 17 rfl
              exact want_no rfl rfl (.inl eg) (hK _ w1 (Ext.refl _) rfl)
            | 6, ho =>
              obtain rfl := Option.some.inj ho
              obtain ⟨vg, gg, eg⟩ := hdep 2 rfl
              have gg : vg = .bool false := gg
              subst gg
              have eg := eg 17 rfl
              exact want_no rfl rfl (.inl eg) (hK _ w1 (Ext.refl _) rfl)
            | 7, ho =>
              obtain rfl := Option.some.inj ho
              obtain ⟨vg, gg, eg⟩ := hdep 2 rfl
              have gg : vg = .bool false := gg
              subst gg
              have eg := eg 17 rfl
              exact want_no rfl rfl (.inl eg) (hK _ w1 (Ext.refl _) rfl)
            | 8, ho =>
              obtain rfl := Option.some.inj ho
              obtain ⟨vg, gg, eg⟩ := hdep 2 rfl
              have gg : vg = .bool false := gg
              subst gg
              have eg := eg 17 rfl
              exact want_no rfl rfl (.inl eg) (hK _ w1 (Ext.refl _) rfl)
            | 9, ho =>
              obtain rfl := Option.some.inj ho
              obtain ⟨vg, gg, eg⟩ := hdep 2 rfl
              have gg : vg = .bool false := gg
              subst gg
              have eg := eg 17 rfl
              exact want_no rfl rfl (.inl eg) (hK _ w1 (Ext.refl _) rfl)
            | 10, ho =>
              obtain rfl := Option.some.inj ho
              obtain ⟨vg, gg, eg⟩ := hdep 2 rfl
              have gg : vg = .bool false := gg
              subst gg
              have eg := eg 17 rfl
              exact want_no rfl rfl (.inl eg) (hK _ w1 (Ext.refl _) rfl)
            | 11, ho =>
              obtain rfl := Option.some.inj ho
              obtain ⟨vg, gg, eg⟩ := hdep 2 rfl
              have gg : vg = .bool false := gg
              subst gg
              have eg := eg 17 rfl
              exact want_no rfl rfl (.inl eg) (hK _ w1 (Ext.refl _) rfl)
            | 12, ho =>
              obtain rfl := Option.some.inj ho
              obtain ⟨vg, gg, eg⟩ := hdep 2 rfl
              have gg : vg = .bool false := gg
              subst gg
              have eg := eg 17 rfl
              exact want_no rfl rfl (.inl eg) (hK _ w1 (Ext.refl _) rfl)
            | 13, ho =>
              obtain rfl := Option.some.inj ho
              obtain ⟨vg, gg, eg⟩ := hdep 2 rfl
              have gg : vg = .bool false := gg
              subst gg
              have eg := eg 17 rfl
              exact want_no rfl rfl (.inl eg) (hK _ w1 (Ext.refl _) rfl)
            | 14, ho =>
              obtain rfl := Option.some.inj ho
              obtain ⟨v17, g17, e17⟩ := hdep 2 rfl
              have g17 : v17 = .bool false := g17
              subst g17
              have e17 := e17 17 rfl
              obtain ⟨v28, g28, e28⟩ := hdep 13 rfl
              have g28 : v28 = undef := g28
              subst g28
              have e28 := e28 28 rfl
              refine want_none rfl ?_
              exact op_run (by unfold execOp; simp [e17, e28, Act.eval, go_sem]) (hK _ w1 (Ext.refl _) rfl)
            | i + 15, ho => cases ho
          · intro V w9 hx hg
            have g0 : V 0 = .int .i64 (q : Int) := hg 0 (by decide)
            have g1 : V 1 = .bool false := hg 1 (by decide)
            have g2 : V 2 = .bool false := hg 2 (by decide)
            have g3 : V 3 = undef := hg 3 (by decide)
            have g4 : V 4 = undef := hg 4 (by decide)
            have g5 : V 5 = undef := hg 5 (by decide)
            have g6 : V 6 = undef := hg 6 (by decide)
            have g7 : V 7 = undef := hg 7 (by decide)
            have g8 : V 8 = undef := hg 8 (by decide)
            have g9 : V 9 = undef := hg 9 (by decide)
            have g10 : V 10 = undef := hg 10 (by decide)
            have g11 : V 11 = undef := hg 11 (by decide)
            have g12 : V 12 = undef := hg 12 (by decide)
            have g13 : V 13 = undef := hg 13 (by decide)
            have g14 : V 14 = .bool false := hg 14 (by decide)
            simp only [List.length_cons, List.length_nil, fillAllN, dstOf, Act.put, List.getElem?_toArray, List.getElem?_cons_zero, List.getElem?_cons_succ, Option.bind_some, g0, g1, g2, g3, g4, g5, g6, g7, g8, g9, g10, g11, g12, g13, g14, List.setIfInBounds_toArray, List.set_cons_zero, List.set_cons_succ]
            clear g0 g1 g2 g3 g4 g5 g6 g7 g8 g9 g10 g11 g12 g13 g14 hg
            have HX6 := Lib.hid (HXQ.out.trans hx)
            clear hx
            go_upto_region 8 with fail
            refine wp_region_rel (fun i v w' => match i with
                | 0 => v = .int .i64 (q : Int)
                | 1 => v = .bool false
                | 2 => v = .bool false
                | 3 => v = undef
                | 4 => v = undef
                | 5 => v = undef
                | 6 => v = undef
                | 7 => v = undef
                | 8 => v = undef
                | 9 => v = undef
                | 10 => v = undef
                | 11 => v = undef
                | 12 => v = undef
                | 13 => v = .bool false
                | _ => True) hm (by kernel_rfl) (by kernel_rfl) rfl ?_ ?_ ?_
            · intro i v w1 w2 hx h
              match i, h with
              | 0, h => exact h
              | 1, h => exact h
              | 2, h => exact h
              | 3, h => exact h
              | 4, h => exact h
              | 5, h => exact h
              | 6, h => exact h
              | 7, h => exact h
              | 8, h => exact h
              | 9, h => exact h
              | 10, h => exact h
              | 11, h => exact h
              | 12, h => exact h
              | 13, h => exact h
              | i + 14, h => exact h
            · intro i o ho b w1 hx hmiss hdep K hK
              match i, ho with
              | 0, ho =>
                obtain rfl := Option.some.inj ho
                have e5 : b.tmps[5]? = some (.int .i64 (q : Int)) := hmiss 5 rfl
                refine want_none rfl ?_
                exact op_move rfl (eval_of e5) (hK _ w1 (Ext.refl _) rfl)
              | 1, ho =>
                obtain rfl := Option.some.inj ho
                obtain ⟨v32, g32, e32⟩ := hdep 0 rfl
                have g32 : v32 = .int .i64 (q : Int) := g32
                subst g32
                have e32 := e32 32 rfl
                refine want_none rfl ?_
                exact op_run (by unfold execOp; simp [e32, Act.eval, go_sem, hz1]) (hK _ w1 (Ext.refl _) rfl)
              | 2, ho =>
                obtain rfl := Option.some.inj ho
                obtain ⟨v33, g33, e33⟩ := hdep 1 rfl
                have g33 : v33 = .bool false := g33
                subst g33
                have e33 := e33 33 rfl
                refine want_none rfl ?_
                exact op_move rfl (eval_of e33) (hK _ w1 (Ext.refl _) rfl)
              | 3, ho =>
                obtain rfl := Option.some.inj ho
                obtain ⟨vg, gg, eg⟩ := hdep 2 rfl
                have gg : vg = .bool false := gg
                subst gg
                have eg := eg 34 rfl
                exact want_no rfl rfl (.inl eg) (hK _ w1 (Ext.refl _) rfl)
              | 4, ho =>
                obtain rfl := Option.some.inj ho
                obtain ⟨vg, gg, eg⟩ := hdep 2 rfl
                have gg : vg = .bool false := gg
                subst gg
                have eg := eg 34 rfl
                exact want_no rfl rfl (.inl eg) (hK _ w1 (Ext.refl _) rfl)
              | 5, ho =>
                obtain rfl := Option.some.inj ho
                obtain ⟨vg, gg, eg⟩ := hdep 2 rfl
                have gg : vg = .bool false := gg
                subst gg
                have eg := eg 34 rfl
                exact want_no rfl rfl (.inl eg) (hK _ w1 (Ext.refl _) rfl)
              | 6, ho =>
                obtain rfl := Option.some.inj ho
                obtain ⟨vg, gg, eg⟩ := hdep 2 rfl
                have gg : vg = .bool false := gg
                subst gg
                have eg := eg 34 rfl
                exact want_no rfl rfl (.inl eg) (hK _ w1 (Ext.refl _) rfl)
              | 7, ho =>
                obtain rfl := Option.some.inj ho
                obtain ⟨vg, gg, eg⟩ := hdep 2 rfl
                have gg : vg = .bool false := gg
                subst gg
                have eg := eg 34 rfl
                exact want_no rfl rfl (.inl eg) (hK _ w1 (Ext.refl _) rfl)
              | 8, ho =>
                obtain rfl := Option.some.inj ho
                obtain ⟨vg, gg, eg⟩ := hdep 2 rfl
                have gg : vg = .bool false := gg
                subst gg
                have eg := eg 34 rfl
                exact want_no rfl rfl (.inl eg) (hK _ w1 (Ext.refl _) rfl)
              | 9, ho =>
                obtain rfl := Option.some.inj ho
                obtain ⟨vg, gg, eg⟩ := hdep 2 rfl
                have gg : vg = .bool false := gg
                subst gg
                have eg := eg 34 rfl
                exact want_no rfl rfl (.inl eg) (hK _ w1 (Ext.refl _) rfl)
              | 10, ho =>
                obtain rfl := Option.some.inj ho
                obtain ⟨vg, gg, eg⟩ := hdep 2 rfl
                have gg : vg = .bool false := gg
                subst gg
                have eg := eg 34 rfl
                exact want_no rfl rfl (.inl eg) (hK _ w1 (Ext.refl _) rfl)
              | 11, ho =>
                obtain rfl := Option.some.inj ho
                obtain ⟨vg, gg, eg⟩ := hdep 2 rfl
                have gg : vg = .bool false := gg
                subst gg
                have eg := eg 34 rfl
                exact want_no rfl rfl (.inl eg) (hK _ w1 (Ext.refl _) rfl)
              | 12, ho =>
                obtain rfl := Option.some.inj ho
                obtain ⟨vg, gg, eg⟩ := hdep 2 rfl
                have gg : vg = .bool false := gg
                subst gg
                have eg := eg 34 rfl
                exact want_no rfl rfl (.inl eg) (hK _ w1 (Ext.refl _) rfl)
              | 13, ho =>
                obtain rfl := Option.some.inj ho
                obtain ⟨v34, g34, e34⟩ := hdep 2 rfl
                have g34 : v34 = .bool false := g34
                subst g34
                have e34 := e34 34 rfl
                obtain ⟨v44, g44, e44⟩ := hdep 12 rfl
                have g44 : v44 = undef := g44
                subst g44
                have e44 := e44 44 rfl
                refine want_none rfl ?_
                exact op_run (by unfold execOp; simp [e34, e44, Act.eval, go_sem]) (hK _ w1 (Ext.refl _) rfl)
              | i + 14, ho => cases ho
            · intro V w9 hx hg
              have g0 : V 0 = .int .i64 (q : Int) := hg 0 (by decide)
              have g1 : V 1 = .bool false := hg 1 (by decide)
              have g2 : V 2 = .bool false := hg 2 (by decide)
              have g3 : V 3 = undef := hg 3 (by decide)
              have g4 : V 4 = undef := hg 4 (by decide)
              have g5 : V 5 = undef := hg 5 (by decide)
              have g6 : V 6 = undef := hg 6 (by decide)
              have g7 : V 7 = undef := hg 7 (by decide)
              have g8 : V 8 = undef := hg 8 (by decide)
              have g9 : V 9 = undef := hg 9 (by decide)
              have g10 : V 10 = undef := hg 10 (by decide)
              have g11 : V 11 = undef := hg 11 (by decide)
              have g12 : V 12 = undef := hg 12 (by decide)
              have g13 : V 13 = .bool false := hg 13 (by decide)
              simp only [List.length_cons, List.length_nil, fillAllN, dstOf, Act.put, List.getElem?_toArray, List.getElem?_cons_zero, List.getElem?_cons_succ, Option.bind_some, g0, g1, g2, g3, g4, g5, g6, g7, g8, g9, g10, g11, g12, g13, List.setIfInBounds_toArray, List.set_cons_zero, List.set_cons_succ]
              clear g0 g1 g2 g3 g4 g5 g6 g7 g8 g9 g10 g11 g12 g13 hg
              have HX8 := Lib.hid (HX6.out.trans hx)
              clear hx
              have HXW := Lib.hid (HX.out.trans HX8.out)
              have HSW := Lib.hid (HO.out.ext HX8.out)
              have HST := Lib.hid (show Sv w9 w9.heap.size 17 (A1) c1 (rowsE (o.take q)) by rw [rowsE_take]; exact HSW.out.take q)
              have HTL := Lib.hid (show (rowsE (o.take q)).length = q by rw [rowsE_length, List.length_take]; omega)
              go_upto_region 11 with (first
                | (with_reducible refine wpList_slice_to rfl 22 32 (.tmp 47) (.tmp 48) rfl i0 Tryd.underlying22 HI.out (A1) o.length c1 q rfl rfl HQC.out ?_)
                | (at_builtin; refine wpList_append_sv _ rfl (.tmp 46) (.tmp 49) 22 rfl w9.heap.size 32 i0 (.agg #[.int .i64 0, .int .i64 0, .int .i64 0, .int .i64 0, .int .i64 0, .int .i64 0, .int .i64 0, .int .i64 0, .int .i64 0, .int .i64 0, .int .i64 0, .int .i64 0, .int .i64 0, .int .i64 0, .int .i64 0, .int .i64 0, .int .i64 0]) 17 136 Tryd.underlying22 HI.out HZ.out HZ1.out HZ2.out rfl (by decide) _ 0 [] rfl (World.ownsRow_nil _ _ _ _) w9.heap.size (A1) q c1 (rowsE (o.take q)) rfl HST.out HTL.out (by unfold maxLen; omega) (by omega) (Nat.le_refl _) ?_; intro v2 W2 g1 g2 _))
              have hx3 : Ext w9 W2 := (Ext.refl _).grown g2 (own_low (World.ownsRow_nil w9 w9.heap.size 32 17))
              have HO3 := Lib.hid (show W2.ownsRow w9.heap.size 32 17 v2 q (rowsE (o.take q)).flatten by simpa using g1)
              have HRA2 := Lib.hid (HRAX.out W2 (HX8.out.trans hx3))
              have hx6 : Ext W2 (W2.alloc (.cells x.cells.toArray 32)) := (Ext.refl _).alloc _
              have HSN := Lib.hid (show Sv (W2.alloc (.cells x.cells.toArray 32)) (W2.alloc (.cells x.cells.toArray 32)).heap.size 17 (some ⟨W2.heap.size, 0, none⟩) 1 (rowsE [x]) from
                ⟨by simp [rowsE], by decide, rowsE_rwk _, fun _ => ⟨W2.heap.size, 0, rfl, by simp, fun j u hu => by
                  rw [Nat.zero_add, cell_of_row _ _ _ _ _ _ (heap_alloc_new W2 _)]
                  simpa [rowsE] using hu⟩⟩)
              have HO4 := Lib.hid (own_ext HO3.out hx6)
              have HX4 := Lib.hid (hx3.trans hx6)
              clear g1 g2 hx3 hx6
              go_upto_region 12 with (first
                | (with_reducible refine wpList_load_mid rfl 32 (.tmp 54) rfl bl (ol + k * 17) rfl x.cells _ HRA2.out Tryd.underlying32 rfl (by kernel_rfl) ?_)
                | (refine wpList_buildRow rfl 22 32 55 rfl 17 (by decide) (by decide) x.cells rfl rfl Tryd.underlying22 (by kernel_rfl) (by kernel_rfl) ?_)
                | (at_builtin; refine wpList_append_sv _ rfl (.tmp 51) (.tmp 56) 22 rfl w9.heap.size 32 i0 (.agg #[.int .i64 0, .int .i64 0, .int .i64 0, .int .i64 0, .int .i64 0, .int .i64 0, .int .i64 0, .int .i64 0, .int .i64 0, .int .i64 0, .int .i64 0, .int .i64 0, .int .i64 0, .int .i64 0, .int .i64 0, .int .i64 0, .int .i64 0]) 17 136 Tryd.underlying22 HI.out HZ.out HZ1.out HZ2.out rfl (by decide) _ q _ rfl HO4.out _ _ 1 1 (rowsE [x]) rfl HSN.out rfl (by unfold maxLen; omega) (by omega) HX4.out.size ?_; intro v6 W6 g1 g2 _))
              have HX6 := Lib.hid (HX4.out.own HO4.out g2 (Nat.le_refl _))
              have HO6 := Lib.hid g1
              clear g1 g2
              have HSD := Lib.hid (show Sv W6 W6.heap.size 17 (if c1 = q then (A1) else Option.map (fun z : Addr => z.add (q * 17)) (A1)) (c1 - q) (rowsE (o.drop q)) by rw [show rowsE (o.drop q) = (rowsE o).drop q by simp [rowsE]]; exact (HSW.out.ext HX6.out).drop (by rw [rowsE_length]; exact HQO.out))
              have HDL := Lib.hid (show (rowsE (o.drop q)).length = o.length - q by rw [rowsE_length, List.length_drop])
              go_wp2_with (first
                | (with_reducible refine wpList_slice_from rfl 22 32 (.tmp 59) (.tmp 60) rfl i0 17 Tryd.underlying22 HI.out HZ1.out (A1) o.length c1 q rfl rfl HQO.out ?_)
                | (at_builtin; refine wpList_append_sv _ rfl (.tmp 58) (.tmp 61) 22 rfl w9.heap.size 32 i0 (.agg #[.int .i64 0, .int .i64 0, .int .i64 0, .int .i64 0, .int .i64 0, .int .i64 0, .int .i64 0, .int .i64 0, .int .i64 0, .int .i64 0, .int .i64 0, .int .i64 0, .int .i64 0, .int .i64 0, .int .i64 0, .int .i64 0, .int .i64 0]) 17 136 Tryd.underlying22 HI.out HZ.out HZ1.out HZ2.out rfl (by decide) _ (q + 1) _ rfl HO6.out W6.heap.size (if c1 = q then (A1) else Option.map (fun z : Addr => z.add (q * 17)) (A1)) (o.length - q) (c1 - q) (rowsE (o.drop q)) rfl HSD.out HDL.out (by unfold maxLen; omega) (by omega) HX6.out.size ?_; intro v7 W7 g1 g2 _))
              have HX7 := Lib.hid (HX6.out.own HO6.out g2 (Nat.le_refl _))
              have hol : (o.take q ++ (x :: o.drop q)).length = q + 1 + (o.length - q) := by rw [List.length_append, List.length_take, List.length_cons, List.length_drop]; omega
              have hor : (rowsE (o.take q ++ (x :: o.drop q))).flatten = (rowsE (o.take q)).flatten ++ (rowsE [x]).flatten ++ (rowsE (o.drop q)).flatten := by simp [rowsE]
              have HO7 := Lib.hid (show W7.ownsRow w9.heap.size 32 17 v7 (o.take q ++ (x :: o.drop q)).length (rowsE (o.take q ++ (x :: o.drop q))).flatten by rw [hol, hor]; exact g1)
              clear hor g1 g2
              generalize o.take q ++ (x :: o.drop q) = o2 at HO7 HIO2 hol
              obtain ⟨A7, c7, rfl, _⟩ := own_form HO7.out
              go_roundw
              case rel => exact ⟨k + 1, o2, A7, c7, by go_num, by omega, rfl, by omega, Sv.of_own HO7.out (rowsE_rwk o2) (rowsE_length o2), HIO2.out, HXW.out.trans HX7.out⟩
              case measure => simp [intOf]; omega
        · obtain ⟨p, hpq⟩ : ∃ p, q = p + 1 := ⟨q - 1, by omega⟩
          have hqp : IntKind.i64.wrap ((q : Int) - 1) = (p : Int) := by rw [IntKind.wrap_i64]; omega
          have hpl : p < o.length := by omega
          have hp0 : 0 ≤ (p : Int) := by omega
          have hp1 : ¬ ((o.length : Int) ≤ (p : Int)) := by omega
          have hq0 : 0 < q := hqp0
          have hq1 : (0 : Int) < (q : Int) := by omega
          obtain ⟨y, hyp⟩ : ∃ y, o[p]? = some y := ⟨_, List.getElem?_eq_getElem hpl⟩
          obtain ⟨bo, oo, rfl, hbo, hro⟩ := ed_row HO.out hyp
          have HYP := Lib.hid hyp
          have HRX := Lib.hid (fun w2 (h : Ext wr w2) => HRAX.out w2 (HXQ.out.trans h))
          have HRY := Lib.hid (fun w2 (h : Ext wr w2) => rangeAt_ext hro hbo (HXQ.out.trans h))
          have HC := Lib.hid (fun w => refCompare_any x y w)
          have hlt9 := @cmpV_lt (numsE x) (numsE y)
          generalize cmpV (numsE x) (numsE y) = cv at HC hlt9
          have HPQ := Lib.hid hpq
          clear hyp hro hbo hqp0 hpq
          cases hbe : befE x y
          · have hcm : ¬ cv < 0 := fun h => by have := hlt9.1 h; unfold befE at hbe; rw [hbe] at this; cases this
            have HSE := Lib.hid (AtE.seen HYP.out hbe)
            clear hlt9 hbe
            go_upto_region 6 with fail
            refine wp_region_rel (fun i v w' => match i with
                | 0 => v = .int .i64 (q : Int)
                | 1 => v = .bool true
                | 2 => v = .bool true
                | 3 => v = .slice (some ⟨bl, ol, none⟩) l.length c
                | 4 => v = .int .i64 (k : Int)
                | 5 => v = .pointer (some ⟨bl, ol + k * 17, none⟩)
                | 6 => v = .agg x.cells.toArray
                | 7 => v = .slice (some ⟨bo, oo, none⟩) o.length c1
                | 8 => v = .int .i64 (q : Int)
                | 9 => v = .int .i64 (p : Int)
                | 10 => v = .pointer (some ⟨bo, oo + p * 17, none⟩)
                | 11 => v = .agg y.cells.toArray
                | 12 => v = .int .i64 cv
                | 13 => v = .bool false
                | 14 => v = .bool false
                | _ => True) hm (by kernel_rfl) (by kernel_rfl) rfl ?_ ?_ ?_
            · intro i v w1 w2 hx h
              match i, h with
              | 0, h => exact h
              | 1, h => exact h
              | 2, h => exact h
              | 3, h => exact h
              | 4, h => exact h
              | 5, h => exact h
              | 6, h => exact h
              | 7, h => exact h
              | 8, h => exact h
              | 9, h => exact h
              | 10, h => exact h
              | 11, h => exact h
              | 12, h => exact h
              | 13, h => exact h
              | 14, h => exact h
              | i + 15, h => exact h
            · intro i o ho b w1 hx hmiss hdep K hK
              match i, ho with
              | 0, ho =>
                obtain rfl := Option.some.inj ho
                have e5 : b.tmps[5]? = some (.int .i64 (q : Int)) := hmiss 5 rfl
                refine want_none rfl ?_
                exact op_move rfl (eval_of e5) (hK _ w1 (Ext.refl _) rfl)
              | 1, ho =>
                obtain rfl := Option.some.inj ho
                obtain ⟨v15, g15, e15⟩ := hdep 0 rfl
                have g15 : v15 = .int .i64 (q : Int) := g15
                subst g15
                have e15 := e15 15 rfl
                refine want_none rfl ?_
                exact op_run (by unfold execOp; simp [e15, Act.eval, go_sem, hq0]) (hK _ w1 (Ext.refl _) rfl)
              | 2, ho =>
                obtain rfl := Option.some.inj ho
                obtain ⟨v16, g16, e16⟩ := hdep 1 rfl
                have g16 : v16 = .bool true := g16
                subst g16
                have e16 := e16 16 rfl
                refine want_none rfl ?_
                exact op_move rfl (eval_of e16) (hK _ w1 (Ext.refl _) rfl)
              | 3, ho =>
                obtain rfl := Option.some.inj ho
                have e0 : b.tmps[0]? = some (.slice (some ⟨bl, ol, none⟩) l.length c) := hmiss 0 rfl
                obtain ⟨vg, gg, eg⟩ := hdep 2 rfl
                have gg : vg = .bool true := gg
                subst gg
                have eg := eg 17 rfl
                refine want_yes rfl rfl eg ?_
                exact op_move rfl (eval_of e0) (hK _ w1 (Ext.refl _) rfl)
              | 4, ho =>
                obtain rfl := Option.some.inj ho
                have e4 : b.tmps[4]? = some (.int .i64 (k : Int)) := hmiss 4 rfl
                obtain ⟨vg, gg, eg⟩ := hdep 2 rfl
                have gg : vg = .bool true := gg
                subst gg
                have eg := eg 17 rfl
                refine want_yes rfl rfl eg ?_
                exact op_move rfl (eval_of e4) (hK _ w1 (Ext.refl _) rfl)
              | 5, ho =>
                obtain rfl := Option.some.inj ho
                obtain ⟨v18, g18, e18⟩ := hdep 3 rfl
                have g18 : v18 = .slice (some ⟨bl, ol, none⟩) l.length c := g18
                subst g18
                have e18 := e18 18 rfl
                obtain ⟨v19, g19, e19⟩ := hdep 4 rfl
                have g19 : v19 = .int .i64 (k : Int) := g19
                subst g19
                have e19 := e19 19 rfl
                obtain ⟨vg, gg, eg⟩ := hdep 2 rfl
                have gg : vg = .bool true := gg
                subst gg
                have eg := eg 17 rfl
                refine want_yes rfl rfl eg ?_
                exact op_run (by unfold execOp; simp [e18, e19, Act.eval, go_sem, hk0, hk1]) (hK _ w1 (Ext.refl _) rfl)
              | 6, ho =>
                obtain rfl := Option.some.inj ho
                obtain ⟨v20, g20, e20⟩ := hdep 5 rfl
                have g20 : v20 = .pointer (some ⟨bl, ol + k * 17, none⟩) := g20
                subst g20
                have e20 := e20 20 rfl
                obtain ⟨vg, gg, eg⟩ := hdep 2 rfl
                have gg : vg = .bool true := gg
                subst gg
                have eg := eg 17 rfl
                refine want_yes rfl rfl eg ?_
                exact wp_load_mid 32 (.tmp 20) rfl (bl) (ol + k * 17) (eval_of e20) (x.cells) _ (HRX.out _ hx) Tryd.underlying32 rfl (by kernel_rfl) (hK _ w1 (Ext.refl _) rfl)
              | 7, ho =>
                obtain rfl := Option.some.inj ho
                have e3 : b.tmps[3]? = some (.slice (some ⟨bo, oo, none⟩) o.length c1) := hmiss 3 rfl
                obtain ⟨vg, gg, eg⟩ := hdep 2 rfl
                have gg : vg = .bool true := gg
                subst gg
                have eg := eg 17 rfl
                refine want_yes rfl rfl eg ?_
                exact op_move rfl (eval_of e3) (hK _ w1 (Ext.refl _) rfl)
              | 8, ho =>
                obtain rfl := Option.some.inj ho
                have e5 : b.tmps[5]? = some (.int .i64 (q : Int)) := hmiss 5 rfl
                obtain ⟨vg, gg, eg⟩ := hdep 2 rfl
                have gg : vg = .bool true := gg
                subst gg
                have eg := eg 17 rfl
                refine want_yes rfl rfl eg ?_
                exact op_move rfl (eval_of e5) (hK _ w1 (Ext.refl _) rfl)
              | 9, ho =>
                obtain rfl := Option.some.inj ho
                obtain ⟨v23, g23, e23⟩ := hdep 8 rfl
                have g23 : v23 = .int .i64 (q : Int) := g23
                subst g23
                have e23 := e23 23 rfl
                obtain ⟨vg, gg, eg⟩ := hdep 2 rfl
                have gg : vg = .bool true := gg
                subst gg
                have eg := eg 17 rfl
                refine want_yes rfl rfl eg ?_
                exact op_run (by unfold execOp; simp [e23, Act.eval, go_sem, hqp]) (hK _ w1 (Ext.refl _) rfl)
              | 10, ho =>
                obtain rfl := Option.some.inj ho
                obtain ⟨v22, g22, e22⟩ := hdep 7 rfl
                have g22 : v22 = .slice (some ⟨bo, oo, none⟩) o.length c1 := g22
                subst g22
                have e22 := e22 22 rfl
                obtain ⟨v24, g24, e24⟩ := hdep 9 rfl
                have g24 : v24 = .int .i64 (p : Int) := g24
                subst g24
                have e24 := e24 24 rfl
                obtain ⟨vg, gg, eg⟩ := hdep 2 rfl
                have gg : vg = .bool true := gg
                subst gg
                have eg := eg 17 rfl
                refine want_yes rfl rfl eg ?_
                exact op_run (by unfold execOp; simp [e22, e24, Act.eval, go_sem, hpl, hp0]) (hK _ w1 (Ext.refl _) rfl)
              | 11, ho =>
                obtain rfl := Option.some.inj ho
                obtain ⟨v25, g25, e25⟩ := hdep 10 rfl
                have g25 : v25 = .pointer (some ⟨bo, oo + p * 17, none⟩) := g25
                subst g25
                have e25 := e25 25 rfl
                obtain ⟨vg, gg, eg⟩ := hdep 2 rfl
                have gg : vg = .bool true := gg
                subst gg
                have eg := eg 17 rfl
                refine want_yes rfl rfl eg ?_
                exact wp_load_mid 32 (.tmp 25) rfl (bo) (oo + p * 17) (eval_of e25) (y.cells) _ (HRY.out _ hx) Tryd.underlying32 rfl (by kernel_rfl) (hK _ w1 (Ext.refl _) rfl)
              | 12, ho =>
                obtain rfl := Option.some.inj ho
                obtain ⟨v21, g21, e21⟩ := hdep 6 rfl
                have g21 : v21 = .agg x.cells.toArray := g21
                subst g21
                have e21 := e21 21 rfl
                obtain ⟨v26, g26, e26⟩ := hdep 11 rfl
                have g26 : v26 = .agg y.cells.toArray := g26
                subst g26
                have e26 := e26 26 rfl
                obtain ⟨vg, gg, eg⟩ := hdep 2 rfl
                have gg : vg = .bool true := gg
                subst gg
                have eg := eg 17 rfl
                refine want_yes rfl rfl eg ?_
                have hc : Calls Tryd.prog 50 #[.agg x.cells.toArray, .agg y.cells.toArray] w1 fun e w' => ∃ v, e = .returned v ∧ Ext w1 w' ∧ (v = .int .i64 cv) := (HC.out w1).mono fun e w2 ⟨h1, h2⟩ => ⟨_, h1, h2, rfl⟩
                exact op_call (G := fun v w' => v = .int .i64 cv) rfl (by simp [eval_of e21, eval_of e26]) (fun _ _ => by kernel_rfl) hc (fun v w' h1 h2 => hK v w' h1 h2)
              | 13, ho =>
                obtain rfl := Option.some.inj ho
                obtain ⟨v27, g27, e27⟩ := hdep 12 rfl
                obtain rfl := g27
                have e27 := e27 27 rfl
                obtain ⟨vg, gg, eg⟩ := hdep 2 rfl
                have gg : vg = .bool true := gg
                subst gg
                have eg := eg 17 rfl
                refine want_yes rfl rfl eg ?_
                exact op_run (by unfold execOp; simp [e27, Act.eval, go_sem, hcm]) (hK _ w1 (Ext.refl _) rfl)
              | 14, ho =>
                obtain rfl := Option.some.inj ho
                obtain ⟨v17, g17, e17⟩ := hdep 2 rfl
                have g17 : v17 = .bool true := g17
                subst g17
                have e17 := e17 17 rfl
                obtain ⟨v28, g28, e28⟩ := hdep 13 rfl
                have g28 : v28 = .bool false := g28
                subst g28
                have e28 := e28 28 rfl
                refine want_none rfl ?_
                exact op_run (by unfold execOp; simp [e17, e28, Act.eval, go_sem]) (hK _ w1 (Ext.refl _) rfl)
              | i + 15, ho => cases ho
            · intro V w9 hx hg
              have g0 : V 0 = .int .i64 (q : Int) := hg 0 (by decide)
              have g1 : V 1 = .bool true := hg 1 (by decide)
              have g2 : V 2 = .bool true := hg 2 (by decide)
              have g3 : V 3 = .slice (some ⟨bl, ol, none⟩) l.length c := hg 3 (by decide)
              have g4 : V 4 = .int .i64 (k : Int) := hg 4 (by decide)
              have g5 : V 5 = .pointer (some ⟨bl, ol + k * 17, none⟩) := hg 5 (by decide)
              have g6 : V 6 = .agg x.cells.toArray := hg 6 (by decide)
              have g7 : V 7 = .slice (some ⟨bo, oo, none⟩) o.length c1 := hg 7 (by decide)
              have g8 : V 8 = .int .i64 (q : Int) := hg 8 (by decide)
              have g9 : V 9 = .int .i64 (p : Int) := hg 9 (by decide)
              have g10 : V 10 = .pointer (some ⟨bo, oo + p * 17, none⟩) := hg 10 (by decide)
              have g11 : V 11 = .agg y.cells.toArray := hg 11 (by decide)
              have g13 : V 13 = .bool false := hg 13 (by decide)
              have g14 : V 14 = .bool false := hg 14 (by decide)
              have g12 := hg 12 (by decide)
              simp only [List.length_cons, List.length_nil, fillAllN, dstOf, Act.put, List.getElem?_toArray, List.getElem?_cons_zero, List.getElem?_cons_succ, Option.bind_some, g0, g1, g2, g3, g4, g5, g6, g7, g8, g9, g10, g11, g13, g14, List.setIfInBounds_toArray, List.set_cons_zero, List.set_cons_succ]
              clear g0 g1 g2 g3 g4 g5 g6 g7 g8 g9 g10 g11 g13 g14 hg
              have HX6 := Lib.hid (HXQ.out.trans hx)
              have HRX2 := Lib.hid (fun w2 (h : Ext w9 w2) => HRX.out w2 (hx.trans h))
              have HRY2 := Lib.hid (fun w2 (h : Ext w9 w2) => HRY.out w2 (hx.trans h))
              have hn := eqEd_run y x
              clear hx hcm
              obtain ⟨W9, hW9⟩ : ∃ W, W = w9 := ⟨_, rfl⟩
              rw [← hW9] at HX6 HRX2 HRY2 ⊢
              clear hW9
              by_cases hyx : y = x
              · rw [decide_eq_true hyx] at hn
                have hcm := True.intro
                have HIO2 := Lib.hid (HIO.out.seen HXK.out (hyx ▸ List.mem_of_getElem? HYP.out))
                clear hyx
                go_upto_region 8 with fail
                refine wp_region_rel (fun i v w' => match i with
                    | 0 => v = .int .i64 (q : Int)
                    | 1 => v = .bool true
                    | 2 => v = .bool true
                    | 3 => v = .slice (some ⟨bo, oo, none⟩) o.length c1
                    | 4 => v = .int .i64 (q : Int)
                    | 5 => v = .int .i64 (p : Int)
                    | 6 => v = .pointer (some ⟨bo, oo + p * 17, none⟩)
                    | 7 => v = .agg y.cells.toArray
                    | 8 => v = .slice (some ⟨bl, ol, none⟩) l.length c
                    | 9 => v = .int .i64 (k : Int)
                    | 10 => v = .pointer (some ⟨bl, ol + k * 17, none⟩)
                    | 11 => v = .agg x.cells.toArray
                    | 12 => v = .bool true
                    | 13 => v = .bool true
                    | _ => True) hm (by kernel_rfl) (by kernel_rfl) rfl ?_ ?_ ?_
                · intro i v w1 w2 hx h
                  match i, h with
                  | 0, h => exact h
                  | 1, h => exact h
                  | 2, h => exact h
                  | 3, h => exact h
                  | 4, h => exact h
                  | 5, h => exact h
                  | 6, h => exact h
                  | 7, h => exact h
                  | 8, h => exact h
                  | 9, h => exact h
                  | 10, h => exact h
                  | 11, h => exact h
                  | 12, h => exact h
                  | 13, h => exact h
                  | i + 14, h => exact h
                · intro i o ho b w1 hx hmiss hdep K hK
                  match i, ho with
                  | 0, ho =>
                    obtain rfl := Option.some.inj ho
                    have e5 : b.tmps[5]? = some (.int .i64 (q : Int)) := hmiss 5 rfl
                    refine want_none rfl ?_
                    exact op_move rfl (eval_of e5) (hK _ w1 (Ext.refl _) rfl)
                  | 1, ho =>
                    obtain rfl := Option.some.inj ho
                    obtain ⟨v32, g32, e32⟩ := hdep 0 rfl
                    have g32 : v32 = .int .i64 (q : Int) := g32
                    subst g32
                    have e32 := e32 32 rfl
                    refine want_none rfl ?_
                    exact op_run (by unfold execOp; simp [e32, Act.eval, go_sem, hq0]) (hK _ w1 (Ext.refl _) rfl)
                  | 2, ho =>
                    obtain rfl := Option.some.inj ho
                    obtain ⟨v33, g33, e33⟩ := hdep 1 rfl
                    have g33 : v33 = .bool true := g33
                    subst g33
                    have e33 := e33 33 rfl
                    refine want_none rfl ?_
                    exact op_move rfl (eval_of e33) (hK _ w1 (Ext.refl _) rfl)
                  | 3, ho =>
                    obtain rfl := Option.some.inj ho
                    have e3 : b.tmps[3]? = some (.slice (some ⟨bo, oo, none⟩) o.length c1) := hmiss 3 rfl
                    obtain ⟨vg, gg, eg⟩ := hdep 2 rfl
                    have gg : vg = .bool true := gg
                    subst gg
                    have eg := eg 34 rfl
                    refine want_yes rfl rfl eg ?_
                    exact op_move rfl (eval_of e3) (hK _ w1 (Ext.refl _) rfl)
                  | 4, ho =>
                    obtain rfl := Option.some.inj ho
                    have e5 : b.tmps[5]? = some (.int .i64 (q : Int)) := hmiss 5 rfl
                    obtain ⟨vg, gg, eg⟩ := hdep 2 rfl
                    have gg : vg = .bool true := gg
                    subst gg
                    have eg := eg 34 rfl
                    refine want_yes rfl rfl eg ?_
                    exact op_move rfl (eval_of e5) (hK _ w1 (Ext.refl _) rfl)
                  | 5, ho =>
                    obtain rfl := Option.some.inj ho
                    obtain ⟨v36, g36, e36⟩ := hdep 4 rfl
                    have g36 : v36 = .int .i64 (q : Int) := g36
                    subst g36
                    have e36 := e36 36 rfl
                    obtain ⟨vg, gg, eg⟩ := hdep 2 rfl
                    have gg : vg = .bool true := gg
                    subst gg
                    have eg := eg 34 rfl
                    refine want_yes rfl rfl eg ?_
                    exact op_run (by unfold execOp; simp [e36, Act.eval, go_sem, hqp]) (hK _ w1 (Ext.refl _) rfl)
                  | 6, ho =>
                    obtain rfl := Option.some.inj ho
                    obtain ⟨v35, g35, e35⟩ := hdep 3 rfl
                    have g35 : v35 = .slice (some ⟨bo, oo, none⟩) o.length c1 := g35
                    subst g35
                    have e35 := e35 35 rfl
                    obtain ⟨v37, g37, e37⟩ := hdep 5 rfl
                    have g37 : v37 = .int .i64 (p : Int) := g37
                    subst g37
                    have e37 := e37 37 rfl
                    obtain ⟨vg, gg, eg⟩ := hdep 2 rfl
                    have gg : vg = .bool true := gg
                    subst gg
                    have eg := eg 34 rfl
                    refine want_yes rfl rfl eg ?_
                    exact op_run (by unfold execOp; simp [e35, e37, Act.eval, go_sem, hpl, hp0]) (hK _ w1 (Ext.refl _) rfl)
                  | 7, ho =>
                    obtain rfl := Option.some.inj ho
                    obtain ⟨v38, g38, e38⟩ := hdep 6 rfl
                    have g38 : v38 = .pointer (some ⟨bo, oo + p * 17, none⟩) := g38
                    subst g38
                    have e38 := e38 38 rfl
                    obtain ⟨vg, gg, eg⟩ := hdep 2 rfl
                    have gg : vg = .bool true := gg
                    subst gg
                    have eg := eg 34 rfl
                    refine want_yes rfl rfl eg ?_
                    exact wp_load_mid 32 (.tmp 38) rfl (bo) (oo + p * 17) (eval_of e38) (y.cells) _ (HRY2.out _ hx) Tryd.underlying32 rfl (by kernel_rfl) (hK _ w1 (Ext.refl _) rfl)
                  | 8, ho =>
                    obtain rfl := Option.some.inj ho
                    have e0 : b.tmps[0]? = some (.slice (some ⟨bl, ol, none⟩) l.length c) := hmiss 0 rfl
                    obtain ⟨vg, gg, eg⟩ := hdep 2 rfl
                    have gg : vg = .bool true := gg
                    subst gg
                    have eg := eg 34 rfl
                    refine want_yes rfl rfl eg ?_
                    exact op_move rfl (eval_of e0) (hK _ w1 (Ext.refl _) rfl)
                  | 9, ho =>
                    obtain rfl := Option.some.inj ho
                    have e4 : b.tmps[4]? = some (.int .i64 (k : Int)) := hmiss 4 rfl
                    obtain ⟨vg, gg, eg⟩ := hdep 2 rfl
                    have gg : vg = .bool true := gg
                    subst gg
                    have eg := eg 34 rfl
                    refine want_yes rfl rfl eg ?_
                    exact op_move rfl (eval_of e4) (hK _ w1 (Ext.refl _) rfl)
                  | 10, ho =>
                    obtain rfl := Option.some.inj ho
                    obtain ⟨v40, g40, e40⟩ := hdep 8 rfl
                    have g40 : v40 = .slice (some ⟨bl, ol, none⟩) l.length c := g40
                    subst g40
                    have e40 := e40 40 rfl
                    obtain ⟨v41, g41, e41⟩ := hdep 9 rfl
                    have g41 : v41 = .int .i64 (k : Int) := g41
                    subst g41
                    have e41 := e41 41 rfl
                    obtain ⟨vg, gg, eg⟩ := hdep 2 rfl
                    have gg : vg = .bool true := gg
                    subst gg
                    have eg := eg 34 rfl
                    refine want_yes rfl rfl eg ?_
                    exact op_run (by unfold execOp; simp [e40, e41, Act.eval, go_sem, hk0, hk1]) (hK _ w1 (Ext.refl _) rfl)
                  | 11, ho =>
                    obtain rfl := Option.some.inj ho
                    obtain ⟨v42, g42, e42⟩ := hdep 10 rfl
                    have g42 : v42 = .pointer (some ⟨bl, ol + k * 17, none⟩) := g42
                    subst g42
                    have e42 := e42 42 rfl
                    obtain ⟨vg, gg, eg⟩ := hdep 2 rfl
                    have gg : vg = .bool true := gg
                    subst gg
                    have eg := eg 34 rfl
                    refine want_yes rfl rfl eg ?_
                    exact wp_load_mid 32 (.tmp 42) rfl (bl) (ol + k * 17) (eval_of e42) (x.cells) _ (HRX2.out _ hx) Tryd.underlying32 rfl (by kernel_rfl) (hK _ w1 (Ext.refl _) rfl)
                  | 12, ho =>
                    obtain rfl := Option.some.inj ho
                    obtain ⟨v39, g39, e39⟩ := hdep 7 rfl
                    have g39 : v39 = .agg y.cells.toArray := g39
                    subst g39
                    have e39 := e39 39 rfl
                    obtain ⟨v43, g43, e43⟩ := hdep 11 rfl
                    have g43 : v43 = .agg x.cells.toArray := g43
                    subst g43
                    have e43 := e43 43 rfl
                    obtain ⟨vg, gg, eg⟩ := hdep 2 rfl
                    have gg : vg = .bool true := gg
                    subst gg
                    have eg := eg 34 rfl
                    refine want_yes rfl rfl eg ?_
                    exact op_run (by unfold execOp; simp [e39, e43, Act.eval, go_sem, hn]) (hK _ w1 (Ext.refl _) rfl)
                  | 13, ho =>
                    obtain rfl := Option.some.inj ho
                    obtain ⟨v34, g34, e34⟩ := hdep 2 rfl
                    have g34 : v34 = .bool true := g34
                    subst g34
                    have e34 := e34 34 rfl
                    obtain ⟨v44, g44, e44⟩ := hdep 12 rfl
                    have g44 : v44 = .bool true := g44
                    subst g44
                    have e44 := e44 44 rfl
                    refine want_none rfl ?_
                    exact op_run (by unfold execOp; simp [e34, e44, Act.eval, go_sem]) (hK _ w1 (Ext.refl _) rfl)
                  | i + 14, ho => cases ho
                · intro V w9 hx hg
                  have g0 : V 0 = .int .i64 (q : Int) := hg 0 (by decide)
                  have g1 : V 1 = .bool true := hg 1 (by decide)
                  have g2 : V 2 = .bool true := hg 2 (by decide)
                  have g3 : V 3 = .slice (some ⟨bo, oo, none⟩) o.length c1 := hg 3 (by decide)
                  have g4 : V 4 = .int .i64 (q : Int) := hg 4 (by decide)
                  have g5 : V 5 = .int .i64 (p : Int) := hg 5 (by decide)
                  have g6 : V 6 = .pointer (some ⟨bo, oo + p * 17, none⟩) := hg 6 (by decide)
                  have g7 : V 7 = .agg y.cells.toArray := hg 7 (by decide)
                  have g8 : V 8 = .slice (some ⟨bl, ol, none⟩) l.length c := hg 8 (by decide)
                  have g9 : V 9 = .int .i64 (k : Int) := hg 9 (by decide)
                  have g10 : V 10 = .pointer (some ⟨bl, ol + k * 17, none⟩) := hg 10 (by decide)
                  have g11 : V 11 = .agg x.cells.toArray := hg 11 (by decide)
                  have g12 : V 12 = .bool true := hg 12 (by decide)
                  have g13 : V 13 = .bool true := hg 13 (by decide)
                  simp only [List.length_cons, List.length_nil, fillAllN, dstOf, Act.put, List.getElem?_toArray, List.getElem?_cons_zero, List.getElem?_cons_succ, Option.bind_some, g0, g1, g2, g3, g4, g5, g6, g7, g8, g9, g10, g11, g12, g13, List.setIfInBounds_toArray, List.set_cons_zero, List.set_cons_succ]
                  clear g0 g1 g2 g3 g4 g5 g6 g7 g8 g9 g10 g11 g12 g13 hg
                  have HX8 := Lib.hid (HX6.out.trans hx)
                  clear hx hn
                  go_wp2_with fail
                  go_roundw
                  case rel => exact ⟨k + 1, o, some ⟨bo, oo, none⟩, c1, by go_num, by omega, rfl, by omega, HO.out.ext HX8.out, HIO2.out, HX.out.trans HX8.out⟩
                  case measure => simp [intOf]; omega
              · rw [decide_eq_false hyx] at hn
                have hcm := True.intro
                have HIO2 := Lib.hid (HIO.out.put HXK.out HAT.out (fun z _ hz => by
                  rw [HPQ.out, Nat.add_sub_cancel, HYP.out] at hz
                  injection hz with hz
                  subst hz
                  exact HSE.out.resolve_left hyx))
                clear hyx
                go_upto_region 8 with fail
                refine wp_region_rel (fun i v w' => match i with
                    | 0 => v = .int .i64 (q : Int)
                    | 1 => v = .bool true
                    | 2 => v = .bool true
                    | 3 => v = .slice (some ⟨bo, oo, none⟩) o.length c1
                    | 4 => v = .int .i64 (q : Int)
                    | 5 => v = .int .i64 (p : Int)
                    | 6 => v = .pointer (some ⟨bo, oo + p * 17, none⟩)
                    | 7 => v = .agg y.cells.toArray
                    | 8 => v = .slice (some ⟨bl, ol, none⟩) l.length c
                    | 9 => v = .int .i64 (k : Int)
                    | 10 => v = .pointer (some ⟨bl, ol + k * 17, none⟩)
                    | 11 => v = .agg x.cells.toArray
                    | 12 => v = .bool false
                    | 13 => v = .bool false
                    | _ => True) hm (by kernel_rfl) (by kernel_rfl) rfl ?_ ?_ ?_
                · intro i v w1 w2 hx h
                  match i, h with
                  | 0, h => exact h
                  | 1, h => exact h
                  | 2, h => exact h
                  | 3, h => exact h
                  | 4, h => exact h
                  | 5, h => exact h
                  | 6, h => exact h
                  | 7, h => exact h
                  | 8, h => exact h
                  | 9, h => exact h
                  | 10, h => exact h
                  | 11, h => exact h
                  | 12, h => exact h
                  | 13, h => exact h
                  | i + 14, h => exact h
                · intro i o ho b w1 hx hmiss hdep K hK
                  match i, ho with
                  | 0, ho =>
                    obtain rfl := Option.some.inj ho
                    have e5 : b.tmps[5]? = some (.int .i64 (q : Int)) := hmiss 5 rfl
                    refine want_none rfl ?_
                    exact op_move rfl (eval_of e5) (hK _ w1 (Ext.refl _) rfl)
                  | 1, ho =>
                    obtain rfl := Option.some.inj ho
                    obtain ⟨v32, g32, e32⟩ := hdep 0 rfl
                    have g32 : v32 = .int .i64 (q : Int) := g32
                    subst g32
                    have e32 := e32 32 rfl
                    refine want_none rfl ?_
                    exact op_run (by unfold execOp; simp [e32, Act.eval, go_sem, hq0]) (hK _ w1 (Ext.refl _) rfl)
                  | 2, ho =>
                    obtain rfl := Option.some.inj ho
                    obtain ⟨v33, g33, e33⟩ := hdep 1 rfl
                    have g33 : v33 = .bool true := g33
                    subst g33
                    have e33 := e33 33 rfl
                    refine want_none rfl ?_
                    exact op_move rfl (eval_of e33) (hK _ w1 (Ext.refl _) rfl)
                  | 3, ho =>
                    obtain rfl := Option.some.inj ho
                    have e3 : b.tmps[3]? = some (.slice (some ⟨bo, oo, none⟩) o.length c1) := hmiss 3 rfl
                    obtain ⟨vg, gg, eg⟩ := hdep 2 rfl
                    have gg : vg = .bool true := gg
                    subst gg
                    have eg := eg 34 rfl
                    refine want_yes rfl rfl eg ?_
                    exact op_move rfl (eval_of e3) (hK _ w1 (Ext.refl _) rfl)
                  | 4, ho =>
                    obtain rfl := Option.some.inj ho
                    have e5 : b.tmps[5]? = some (.int .i64 (q : Int)) := hmiss 5 rfl
                    obtain ⟨vg, gg, eg⟩ := hdep 2 rfl
                    have gg : vg = .bool true := gg
                    subst gg
                    have eg := eg 34 rfl
                    refine want_yes rfl rfl eg ?_
                    exact op_move rfl (eval_of e5) (hK _ w1 (Ext.refl _) rfl)
                  | 5, ho =>
                    obtain rfl := Option.some.inj ho
                    obtain ⟨v36, g36, e36⟩ := hdep 4 rfl
                    have g36 : v36 = .int .i64 (q : Int) := g36
                    subst g36
                    have e36 := e36 36 rfl
                    obtain ⟨vg, gg, eg⟩ := hdep 2 rfl
                    have gg : vg = .bool true := gg
                    subst gg
                    have eg := eg 34 rfl
                    refine want_yes rfl rfl eg ?_
                    exact op_run (by unfold execOp; simp [e36, Act.eval, go_sem, hqp]) (hK _ w1 (Ext.refl _) rfl)
                  | 6, ho =>
                    obtain rfl := Option.some.inj ho
                    obtain ⟨v35, g35, e35⟩ := hdep 3 rfl
                    have g35 : v35 = .slice (some ⟨bo, oo, none⟩) o.length c1 := g35
                    subst g35
                    have e35 := e35 35 rfl
                    obtain ⟨v37, g37, e37⟩ := hdep 5 rfl
                    have g37 : v37 = .int .i64 (p : Int) := g37
                    subst g37
                    have e37 := e37 37 rfl
                    obtain ⟨vg, gg, eg⟩ := hdep 2 rfl
                    have gg : vg = .bool true := gg
                    subst gg
                    have eg := eg 34 rfl
                    refine want_yes rfl rfl eg ?_
                    exact op_run (by unfold execOp; simp [e35, e37, Act.eval, go_sem, hpl, hp0]) (hK _ w1 (Ext.refl _) rfl)
                  | 7, ho =>
                    obtain rfl := Option.some.inj ho
                    obtain ⟨v38, g38, e38⟩ := hdep 6 rfl
                    have g38 : v38 = .pointer (some ⟨bo, oo + p * 17, none⟩) := g38
                    subst g38
                    have e38 := e38 38 rfl
                    obtain ⟨vg, gg, eg⟩ := hdep 2 rfl
                    have gg : vg = .bool true := gg
                    subst gg
                    have eg := eg 34 rfl
                    refine want_yes rfl rfl eg ?_
                    exact wp_load_mid 32 (.tmp 38) rfl (bo) (oo + p * 17) (eval_of e38) (y.cells) _ (HRY2.out _ hx) Tryd.underlying32 rfl (by kernel_rfl) (hK _ w1 (Ext.refl _) rfl)
                  | 8, ho =>
                    obtain rfl := Option.some.inj ho
                    have e0 : b.tmps[0]? = some (.slice (some ⟨bl, ol, none⟩) l.length c) := hmiss 0 rfl
                    obtain ⟨vg, gg, eg⟩ := hdep 2 rfl
                    have gg : vg = .bool true := gg
                    subst gg
                    have eg := eg 34 rfl
                    refine want_yes rfl rfl eg ?_
                    exact op_move rfl (eval_of e0) (hK _ w1 (Ext.refl _) rfl)
                  | 9, ho =>
                    obtain rfl := Option.some.inj ho
                    have e4 : b.tmps[4]? = some (.int .i64 (k : Int)) := hmiss 4 rfl
                    obtain ⟨vg, gg, eg⟩ := hdep 2 rfl
                    have gg : vg = .bool true := gg
                    subst gg
                    have eg := eg 34 rfl
                    refine want_yes rfl rfl eg ?_
                    exact op_move rfl (eval_of e4) (hK _ w1 (Ext.refl _) rfl)
                  | 10, ho =>
                    obtain rfl := Option.some.inj ho
                    obtain ⟨v40, g40, e40⟩ := hdep 8 rfl
                    have g40 : v40 = .slice (some ⟨bl, ol, none⟩) l.length c := g40
                    subst g40
                    have e40 := e40 40 rfl
                    obtain ⟨v41, g41, e41⟩ := hdep 9 rfl
                    have g41 : v41 = .int .i64 (k : Int) := g41
                    subst g41
                    have e41 := e41 41 rfl
                    obtain ⟨vg, gg, eg⟩ := hdep 2 rfl
                    have gg : vg = .bool true := gg
                    subst gg
                    have eg := eg 34 rfl
                    refine want_yes rfl rfl eg ?_
                    exact op_run (by unfold execOp; simp [e40, e41, Act.eval, go_sem, hk0, hk1]) (hK _ w1 (Ext.refl _) rfl)
                  | 11, ho =>
                    obtain rfl := Option.some.inj ho
                    obtain ⟨v42, g42, e42⟩ := hdep 10 rfl
                    have g42 : v42 = .pointer (some ⟨bl, ol + k * 17, none⟩) := g42
                    subst g42
                    have e42 := e42 42 rfl
                    obtain ⟨vg, gg, eg⟩ := hdep 2 rfl
                    have gg : vg = .bool true := gg
                    subst gg
                    have eg := eg 34 rfl
                    refine want_yes rfl rfl eg ?_
                    exact wp_load_mid 32 (.tmp 42) rfl (bl) (ol + k * 17) (eval_of e42) (x.cells) _ (HRX2.out _ hx) Tryd.underlying32 rfl (by kernel_rfl) (hK _ w1 (Ext.refl _) rfl)
                  | 12, ho =>
                    obtain rfl := Option.some.inj ho
                    obtain ⟨v39, g39, e39⟩ := hdep 7 rfl
                    have g39 : v39 = .agg y.cells.toArray := g39
                    subst g39
                    have e39 := e39 39 rfl
                    obtain ⟨v43, g43, e43⟩ := hdep 11 rfl
                    have g43 : v43 = .agg x.cells.toArray := g43
                    subst g43
                    have e43 := e43 43 rfl
                    obtain ⟨vg, gg, eg⟩ := hdep 2 rfl
                    have gg : vg = .bool true := gg
                    subst gg
                    have eg := eg 34 rfl
                    refine want_yes rfl rfl eg ?_
                    exact op_run (by unfold execOp; simp [e39, e43, Act.eval, go_sem, hn]) (hK _ w1 (Ext.refl _) rfl)
                  | 13, ho =>
                    obtain rfl := Option.some.inj ho
                    obtain ⟨v34, g34, e34⟩ := hdep 2 rfl
                    have g34 : v34 = .bool true := g34
                    subst g34
                    have e34 := e34 34 rfl
                    obtain ⟨v44, g44, e44⟩ := hdep 12 rfl
                    have g44 : v44 = .bool false := g44
                    subst g44
                    have e44 := e44 44 rfl
                    refine want_none rfl ?_
                    exact op_run (by unfold execOp; simp [e34, e44, Act.eval, go_sem]) (hK _ w1 (Ext.refl _) rfl)
                  | i + 14, ho => cases ho
                · intro V w9 hx hg
                  have g0 : V 0 = .int .i64 (q : Int) := hg 0 (by decide)
                  have g1 : V 1 = .bool true := hg 1 (by decide)
                  have g2 : V 2 = .bool true := hg 2 (by decide)
                  have g3 : V 3 = .slice (some ⟨bo, oo, none⟩) o.length c1 := hg 3 (by decide)
                  have g4 : V 4 = .int .i64 (q : Int) := hg 4 (by decide)
                  have g5 : V 5 = .int .i64 (p : Int) := hg 5 (by decide)
                  have g6 : V 6 = .pointer (some ⟨bo, oo + p * 17, none⟩) := hg 6 (by decide)
                  have g7 : V 7 = .agg y.cells.toArray := hg 7 (by decide)
                  have g8 : V 8 = .slice (some ⟨bl, ol, none⟩) l.length c := hg 8 (by decide)
                  have g9 : V 9 = .int .i64 (k : Int) := hg 9 (by decide)
                  have g10 : V 10 = .pointer (some ⟨bl, ol + k * 17, none⟩) := hg 10 (by decide)
                  have g11 : V 11 = .agg x.cells.toArray := hg 11 (by decide)
                  have g12 : V 12 = .bool false := hg 12 (by decide)
                  have g13 : V 13 = .bool false := hg 13 (by decide)
                  simp only [List.length_cons, List.length_nil, fillAllN, dstOf, Act.put, List.getElem?_toArray, List.getElem?_cons_zero, List.getElem?_cons_succ, Option.bind_some, g0, g1, g2, g3, g4, g5, g6, g7, g8, g9, g10, g11, g12, g13, List.setIfInBounds_toArray, List.set_cons_zero, List.set_cons_succ]
                  clear g0 g1 g2 g3 g4 g5 g6 g7 g8 g9 g10 g11 g12 g13 hg
                  have HX8 := Lib.hid (HX6.out.trans hx)
                  clear hx hn
                  have HXW := Lib.hid (HX.out.trans HX8.out)
                  have HSW := Lib.hid (HO.out.ext HX8.out)
                  have HST := Lib.hid (show Sv w9 w9.heap.size 17 (some ⟨bo, oo, none⟩) c1 (rowsE (o.take q)) by rw [rowsE_take]; exact HSW.out.take q)
                  have HTL := Lib.hid (show (rowsE (o.take q)).length = q by rw [rowsE_length, List.length_take]; omega)
                  go_upto_region 11 with (first
                    | (with_reducible refine wpList_slice_to rfl 22 32 (.tmp 47) (.tmp 48) rfl i0 Tryd.underlying22 HI.out (some ⟨bo, oo, none⟩) o.length c1 q rfl rfl HQC.out ?_)
                    | (at_builtin; refine wpList_append_sv _ rfl (.tmp 46) (.tmp 49) 22 rfl w9.heap.size 32 i0 (.agg #[.int .i64 0, .int .i64 0, .int .i64 0, .int .i64 0, .int .i64 0, .int .i64 0, .int .i64 0, .int .i64 0, .int .i64 0, .int .i64 0, .int .i64 0, .int .i64 0, .int .i64 0, .int .i64 0, .int .i64 0, .int .i64 0, .int .i64 0]) 17 136 Tryd.underlying22 HI.out HZ.out HZ1.out HZ2.out rfl (by decide) _ 0 [] rfl (World.ownsRow_nil _ _ _ _) w9.heap.size (some ⟨bo, oo, none⟩) q c1 (rowsE (o.take q)) rfl HST.out HTL.out (by unfold maxLen; omega) (by omega) (Nat.le_refl _) ?_; intro v2 W2 g1 g2 _))
                  have hx3 : Ext w9 W2 := (Ext.refl _).grown g2 (own_low (World.ownsRow_nil w9 w9.heap.size 32 17))
                  have HO3 := Lib.hid (show W2.ownsRow w9.heap.size 32 17 v2 q (rowsE (o.take q)).flatten by simpa using g1)
                  have HRA2 := Lib.hid (HRAX.out W2 (HX8.out.trans hx3))
                  have hx6 : Ext W2 (W2.alloc (.cells x.cells.toArray 32)) := (Ext.refl _).alloc _
                  have HSN := Lib.hid (show Sv (W2.alloc (.cells x.cells.toArray 32)) (W2.alloc (.cells x.cells.toArray 32)).heap.size 17 (some ⟨W2.heap.size, 0, none⟩) 1 (rowsE [x]) from
                    ⟨by simp [rowsE], by decide, rowsE_rwk _, fun _ => ⟨W2.heap.size, 0, rfl, by simp, fun j u hu => by
                      rw [Nat.zero_add, cell_of_row _ _ _ _ _ _ (heap_alloc_new W2 _)]
                      simpa [rowsE] using hu⟩⟩)
                  have HO4 := Lib.hid (own_ext HO3.out hx6)
                  have HX4 := Lib.hid (hx3.trans hx6)
                  clear g1 g2 hx3 hx6
                  go_upto_region 12 with (first
                    | (with_reducible refine wpList_load_mid rfl 32 (.tmp 54) rfl bl (ol + k * 17) rfl x.cells _ HRA2.out Tryd.underlying32 rfl (by kernel_rfl) ?_)
                    | (refine wpList_buildRow rfl 22 32 55 rfl 17 (by decide) (by decide) x.cells rfl rfl Tryd.underlying22 (by kernel_rfl) (by kernel_rfl) ?_)
                    | (at_builtin; refine wpList_append_sv _ rfl (.tmp 51) (.tmp 56) 22 rfl w9.heap.size 32 i0 (.agg #[.int .i64 0, .int .i64 0, .int .i64 0, .int .i64 0, .int .i64 0, .int .i64 0, .int .i64 0, .int .i64 0, .int .i64 0, .int .i64 0, .int .i64 0, .int .i64 0, .int .i64 0, .int .i64 0, .int .i64 0, .int .i64 0, .int .i64 0]) 17 136 Tryd.underlying22 HI.out HZ.out HZ1.out HZ2.out rfl (by decide) _ q _ rfl HO4.out _ _ 1 1 (rowsE [x]) rfl HSN.out rfl (by unfold maxLen; omega) (by omega) HX4.out.size ?_; intro v6 W6 g1 g2 _))
                  have HX6 := Lib.hid (HX4.out.own HO4.out g2 (Nat.le_refl _))
                  have HO6 := Lib.hid g1
                  clear g1 g2
                  have HSD := Lib.hid (show Sv W6 W6.heap.size 17 (if c1 = q then (some ⟨bo, oo, none⟩) else Option.map (fun z : Addr => z.add (q * 17)) (some ⟨bo, oo, none⟩)) (c1 - q) (rowsE (o.drop q)) by rw [show rowsE (o.drop q) = (rowsE o).drop q by simp [rowsE]]; exact (HSW.out.ext HX6.out).drop (by rw [rowsE_length]; exact HQO.out))
                  have HDL := Lib.hid (show (rowsE (o.drop q)).length = o.length - q by rw [rowsE_length, List.length_drop])
                  go_wp2_with (first
                    | (with_reducible refine wpList_slice_from rfl 22 32 (.tmp 59) (.tmp 60) rfl i0 17 Tryd.underlying22 HI.out HZ1.out (some ⟨bo, oo, none⟩) o.length c1 q rfl rfl HQO.out ?_)
                    | (at_builtin; refine wpList_append_sv _ rfl (.tmp 58) (.tmp 61) 22 rfl w9.heap.size 32 i0 (.agg #[.int .i64 0, .int .i64 0, .int .i64 0, .int .i64 0, .int .i64 0, .int .i64 0, .int .i64 0, .int .i64 0, .int .i64 0, .int .i64 0, .int .i64 0, .int .i64 0, .int .i64 0, .int .i64 0, .int .i64 0, .int .i64 0, .int .i64 0]) 17 136 Tryd.underlying22 HI.out HZ.out HZ1.out HZ2.out rfl (by decide) _ (q + 1) _ rfl HO6.out W6.heap.size (if c1 = q then (some ⟨bo, oo, none⟩) else Option.map (fun z : Addr => z.add (q * 17)) (some ⟨bo, oo, none⟩)) (o.length - q) (c1 - q) (rowsE (o.drop q)) rfl HSD.out HDL.out (by unfold maxLen; omega) (by omega) HX6.out.size ?_; intro v7 W7 g1 g2 _))
                  have HX7 := Lib.hid (HX6.out.own HO6.out g2 (Nat.le_refl _))
                  have hol : (o.take q ++ (x :: o.drop q)).length = q + 1 + (o.length - q) := by rw [List.length_append, List.length_take, List.length_cons, List.length_drop]; omega
                  have hor : (rowsE (o.take q ++ (x :: o.drop q))).flatten = (rowsE (o.take q)).flatten ++ (rowsE [x]).flatten ++ (rowsE (o.drop q)).flatten := by simp [rowsE]
                  have HO7 := Lib.hid (show W7.ownsRow w9.heap.size 32 17 v7 (o.take q ++ (x :: o.drop q)).length (rowsE (o.take q ++ (x :: o.drop q))).flatten by rw [hol, hor]; exact g1)
                  clear hor g1 g2
                  generalize o.take q ++ (x :: o.drop q) = o2 at HO7 HIO2 hol
                  obtain ⟨A7, c7, rfl, _⟩ := own_form HO7.out
                  go_roundw
                  case rel => exact ⟨k + 1, o2, A7, c7, by go_num, by omega, rfl, by omega, Sv.of_own HO7.out (rowsE_rwk o2) (rowsE_length o2), HIO2.out, HXW.out.trans HX7.out⟩
                  case measure => simp [intOf]; omega
          · have hcm : cv < 0 := hlt9.2 hbe
            have HAT2 := Lib.hid (AtE.down (HPQ.out ▸ HAT.out) HYP.out hbe)
            clear hlt9 hbe
            go_upto_region 6 with fail
            refine wp_region_rel (fun i v w' => match i with
                | 0 => v = .int .i64 (q : Int)
                | 1 => v = .bool true
                | 2 => v = .bool true
                | 3 => v = .slice (some ⟨bl, ol, none⟩) l.length c
                | 4 => v = .int .i64 (k : Int)
                | 5 => v = .pointer (some ⟨bl, ol + k * 17, none⟩)
                | 6 => v = .agg x.cells.toArray
                | 7 => v = .slice (some ⟨bo, oo, none⟩) o.length c1
                | 8 => v = .int .i64 (q : Int)
                | 9 => v = .int .i64 (p : Int)
                | 10 => v = .pointer (some ⟨bo, oo + p * 17, none⟩)
                | 11 => v = .agg y.cells.toArray
                | 12 => v = .int .i64 cv
                | 13 => v = .bool true
                | 14 => v = .bool true
                | _ => True) hm (by kernel_rfl) (by kernel_rfl) rfl ?_ ?_ ?_
            · intro i v w1 w2 hx h
              match i, h with
              | 0, h => exact h
              | 1, h => exact h
              | 2, h => exact h
              | 3, h => exact h
              | 4, h => exact h
              | 5, h => exact h
              | 6, h => exact h
              | 7, h => exact h
              | 8, h => exact h
              | 9, h => exact h
              | 10, h => exact h
              | 11, h => exact h
              | 12, h => exact h
              | 13, h => exact h
              | 14, h => exact h
              | i + 15, h => exact h
            · intro i o ho b w1 hx hmiss hdep K hK
              match i, ho with
              | 0, ho =>
                obtain rfl := Option.some.inj ho
                have e5 : b.tmps[5]? = some (.int .i64 (q : Int)) := hmiss 5 rfl
                refine want_none rfl ?_
                exact op_move rfl (eval_of e5) (hK _ w1 (Ext.refl _) rfl)
              | 1, ho =>
                obtain rfl := Option.some.inj ho
                obtain ⟨v15, g15, e15⟩ := hdep 0 rfl
                have g15 : v15 = .int .i64 (q : Int) := g15
                subst g15
                have e15 := e15 15 rfl
                refine want_none rfl ?_
                exact op_run (by unfold execOp; simp [e15, Act.eval, go_sem, hq0]) (hK _ w1 (Ext.refl _) rfl)
              | 2, ho =>
                obtain rfl := Option.some.inj ho
                obtain ⟨v16, g16, e16⟩ := hdep 1 rfl
                have g16 : v16 = .bool true := g16
                subst g16
                have e16 := e16 16 rfl
                refine want_none rfl ?_
                exact op_move rfl (eval_of e16) (hK _ w1 (Ext.refl _) rfl)
              | 3, ho =>
                obtain rfl := Option.some.inj ho
                have e0 : b.tmps[0]? = some (.slice (some ⟨bl, ol, none⟩) l.length c) := hmiss 0 rfl
                obtain ⟨vg, gg, eg⟩ := hdep 2 rfl
                have gg : vg = .bool true := gg
                subst gg
                have eg := eg 17 rfl
                refine want_yes rfl rfl eg ?_
                exact op_move rfl (eval_of e0) (hK _ w1 (Ext.refl _) rfl)
              | 4, ho =>
                obtain rfl := Option.some.inj ho
                have e4 : b.tmps[4]? = some (.int .i64 (k : Int)) := hmiss 4 rfl
                obtain ⟨vg, gg, eg⟩ := hdep 2 rfl
                have gg : vg = .bool true := gg
                subst gg
                have eg := eg 17 rfl
                refine want_yes rfl rfl eg ?_
                exact op_move rfl (eval_of e4) (hK _ w1 (Ext.refl _) rfl)
              | 5, ho =>
                obtain rfl := Option.some.inj ho
                obtain ⟨v18, g18, e18⟩ := hdep 3 rfl
                have g18 : v18 = .slice (some ⟨bl, ol, none⟩) l.length c := g18
                subst g18
                have e18 := e18 18 rfl
                obtain ⟨v19, g19, e19⟩ := hdep 4 rfl
                have g19 : v19 = .int .i64 (k : Int) := g19
                subst g19
                have e19 := e19 19 rfl
                obtain ⟨vg, gg, eg⟩ := hdep 2 rfl
                have gg : vg = .bool true := gg
                subst gg
                have eg := eg 17 rfl
                refine want_yes rfl rfl eg ?_
                exact op_run (by unfold execOp; simp [e18, e19, Act.eval, go_sem, hk0, hk1]) (hK _ w1 (Ext.refl _) rfl)
              | 6, ho =>
                obtain rfl := Option.some.inj ho
                obtain ⟨v20, g20, e20⟩ := hdep 5 rfl
                have g20 : v20 = .pointer (some ⟨bl, ol + k * 17, none⟩) := g20
                subst g20
                have e20 := e20 20 rfl
                obtain ⟨vg, gg, eg⟩ := hdep 2 rfl
                have gg : vg = .bool true := gg
                subst gg
                have eg := eg 17 rfl
                refine want_yes rfl rfl eg ?_
                exact wp_load_mid 32 (.tmp 20) rfl (bl) (ol + k * 17) (eval_of e20) (x.cells) _ (HRX.out _ hx) Tryd.underlying32 rfl (by kernel_rfl) (hK _ w1 (Ext.refl _) rfl)
              | 7, ho =>
                obtain rfl := Option.some.inj ho
                have e3 : b.tmps[3]? = some (.slice (some ⟨bo, oo, none⟩) o.length c1) := hmiss 3 rfl
                obtain ⟨vg, gg, eg⟩ := hdep 2 rfl
                have gg : vg = .bool true := gg
                subst gg
                have eg := eg 17 rfl
                refine want_yes rfl rfl eg ?_
                exact op_move rfl (eval_of e3) (hK _ w1 (Ext.refl _) rfl)
              | 8, ho =>
                obtain rfl := Option.some.inj ho
                have e5 : b.tmps[5]? = some (.int .i64 (q : Int)) := hmiss 5 rfl
                obtain ⟨vg, gg, eg⟩ := hdep 2 rfl
                have gg : vg = .bool true := gg
                subst gg
                have eg := eg 17 rfl
                refine want_yes rfl rfl eg ?_
                exact op_move rfl (eval_of e5) (hK _ w1 (Ext.refl _) rfl)
              | 9, ho =>
                obtain rfl := Option.some.inj ho
                obtain ⟨v23, g23, e23⟩ := hdep 8 rfl
                have g23 : v23 = .int .i64 (q : Int) := g23
                subst g23
                have e23 := e23 23 rfl
                obtain ⟨vg, gg, eg⟩ := hdep 2 rfl
                have gg : vg = .bool true := gg
                subst gg
                have eg := eg 17 rfl
                refine want_yes rfl rfl eg ?_
                exact op_run (by unfold execOp; simp [e23, Act.eval, go_sem, hqp]) (hK _ w1 (Ext.refl _) rfl)
              | 10, ho =>
                obtain rfl := Option.some.inj ho
                obtain ⟨v22, g22, e22⟩ := hdep 7 rfl
                have g22 : v22 = .slice (some ⟨bo, oo, none⟩) o.length c1 := g22
                subst g22
                have e22 := e22 22 rfl
                obtain ⟨v24, g24, e24⟩ := hdep 9 rfl
                have g24 : v24 = .int .i64 (p : Int) := g24
                subst g24
                have e24 := e24 24 rfl
                obtain ⟨vg, gg, eg⟩ := hdep 2 rfl
                have gg : vg = .bool true := gg
                subst gg
                have eg := eg 17 rfl
                refine want_yes rfl rfl eg ?_
                exact op_run (by unfold execOp; simp [e22, e24, Act.eval, go_sem, hpl, hp0]) (hK _ w1 (Ext.refl _) rfl)
              | 11, ho =>
                obtain rfl := Option.some.inj ho
                obtain ⟨v25, g25, e25⟩ := hdep 10 rfl
                have g25 : v25 = .pointer (some ⟨bo, oo + p * 17, none⟩) := g25
                subst g25
                have e25 := e25 25 rfl
                obtain ⟨vg, gg, eg⟩ := hdep 2 rfl
                have gg : vg = .bool true := gg
                subst gg
                have eg := eg 17 rfl
                refine want_yes rfl rfl eg ?_
                exact wp_load_mid 32 (.tmp 25) rfl (bo) (oo + p * 17) (eval_of e25) (y.cells) _ (HRY.out _ hx) Tryd.underlying32 rfl (by kernel_rfl) (hK _ w1 (Ext.refl _) rfl)
              | 12, ho =>
                obtain rfl := Option.some.inj ho
                obtain ⟨v21, g21, e21⟩ := hdep 6 rfl
                have g21 : v21 = .agg x.cells.toArray := g21
                subst g21
                have e21 := e21 21 rfl
                obtain ⟨v26, g26, e26⟩ := hdep 11 rfl
                have g26 : v26 = .agg y.cells.toArray := g26
                subst g26
                have e26 := e26 26 rfl
                obtain ⟨vg, gg, eg⟩ := hdep 2 rfl
                have gg : vg = .bool true := gg
                subst gg
                have eg := eg 17 rfl
                refine want_yes rfl rfl eg ?_
                have hc : Calls Tryd.prog 50 #[.agg x.cells.toArray, .agg y.cells.toArray] w1 fun e w' => ∃ v, e = .returned v ∧ Ext w1 w' ∧ (v = .int .i64 cv) := (HC.out w1).mono fun e w2 ⟨h1, h2⟩ => ⟨_, h1, h2, rfl⟩
                exact op_call (G := fun v w' => v = .int .i64 cv) rfl (by simp [eval_of e21, eval_of e26]) (fun _ _ => by kernel_rfl) hc (fun v w' h1 h2 => hK v w' h1 h2)
              | 13, ho =>
                obtain rfl := Option.some.inj ho
                obtain ⟨v27, g27, e27⟩ := hdep 12 rfl
                obtain rfl := g27
                have e27 := e27 27 rfl
                obtain ⟨vg, gg, eg⟩ := hdep 2 rfl
                have gg : vg = .bool true := gg
                subst gg
                have eg := eg 17 rfl
                refine want_yes rfl rfl eg ?_
                exact op_run (by unfold execOp; simp [e27, Act.eval, go_sem, hcm]) (hK _ w1 (Ext.refl _) rfl)
              | 14, ho =>
                obtain rfl := Option.some.inj ho
                obtain ⟨v17, g17, e17⟩ := hdep 2 rfl
                have g17 : v17 = .bool true := g17
                subst g17
                have e17 := e17 17 rfl
                obtain ⟨v28, g28, e28⟩ := hdep 13 rfl
                have g28 : v28 = .bool true := g28
                subst g28
                have e28 := e28 28 rfl
                refine want_none rfl ?_
                exact op_run (by unfold execOp; simp [e17, e28, Act.eval, go_sem]) (hK _ w1 (Ext.refl _) rfl)
              | i + 15, ho => cases ho
            · intro V w9 hx hg
              have g0 : V 0 = .int .i64 (q : Int) := hg 0 (by decide)
              have g1 : V 1 = .bool true := hg 1 (by decide)
              have g2 : V 2 = .bool true := hg 2 (by decide)
              have g3 : V 3 = .slice (some ⟨bl, ol, none⟩) l.length c := hg 3 (by decide)
              have g4 : V 4 = .int .i64 (k : Int) := hg 4 (by decide)
              have g5 : V 5 = .pointer (some ⟨bl, ol + k * 17, none⟩) := hg 5 (by decide)
              have g6 : V 6 = .agg x.cells.toArray := hg 6 (by decide)
              have g7 : V 7 = .slice (some ⟨bo, oo, none⟩) o.length c1 := hg 7 (by decide)
              have g8 : V 8 = .int .i64 (q : Int) := hg 8 (by decide)
              have g9 : V 9 = .int .i64 (p : Int) := hg 9 (by decide)
              have g10 : V 10 = .pointer (some ⟨bo, oo + p * 17, none⟩) := hg 10 (by decide)
              have g11 : V 11 = .agg y.cells.toArray := hg 11 (by decide)
              have g13 : V 13 = .bool true := hg 13 (by decide)
              have g14 : V 14 = .bool true := hg 14 (by decide)
              have g12 := hg 12 (by decide)
              simp only [List.length_cons, List.length_nil, fillAllN, dstOf, Act.put, List.getElem?_toArray, List.getElem?_cons_zero, List.getElem?_cons_succ, Option.bind_some, g0, g1, g2, g3, g4, g5, g6, g7, g8, g9, g10, g11, g13, g14, List.setIfInBounds_toArray, List.set_cons_zero, List.set_cons_succ]
              clear g0 g1 g2 g3 g4 g5 g6 g7 g8 g9 g10 g11 g13 g14 hg
              have HX6 := Lib.hid (HXQ.out.trans hx)
              clear hx hcm
              go_wp2_with fail
              go_roundw
              case rel => exact ⟨p, rfl, HAT2.out, HX6.out⟩
              case measure => have := HPQ.out; simp [intOf]; omega
    · obtain rfl : k = l.length := by omega
      rw [List.take_length] at HIO
      go_wp2_with fail
      go_ret
      exact ⟨o, HIO.out, A1, c1, rfl, HO.out, HX.out⟩
end Go.Proofs.YtcfebfblmmbeaaaDoor

/- The reference's Set. -/
namespace Go.Proofs.YtcfebfblmmbeaaaDoor
open Go Go.RowKit

theorem filter_snocP (p : Ed → Bool) (l : List Ed) (k : Nat) (x : Ed) (hx : l[k]? = some x) : (l.take (k + 1)).filter p = (l.take k).filter p ++ (if p x then [x] else []) := by
  rw [take_snocR hx, List.filter_append]
  cases h : p x <;> simp [h]
set_option maxRecDepth 100000 in
set_option maxHeartbeats 8000000 in
theorem refSet_any (A : Option Addr) (c : Nat) (l : List Ed) (w : World) (hs : Sv w w.heap.size 17 A c (rowsE l)) (hb : l.length ≤ 1034834473200) :
    Calls Tryd.prog 17 #[.slice A l.length c] w fun e w' => ∃ m, IsSet l m ∧ RetE m w e w' := by
  obtain ⟨i0, hi, hz0, hz1, hz2⟩ := info_parts infoEd
  have HI := Lib.hid hi; have HZ := Lib.hid hz0; have HZ1 := Lib.hid hz1; have HZ2 := Lib.hid hz2; clear hi hz0 hz1 hz2
  have HS := Lib.hid hs
  have HFO := Lib.hid (refformed_any A c l w hs hb)
  clear hs
  go_enter Tryd.func17, Tryd.ntmps17
  go_wp2_with fail
  refine HFO.out.mono ?_
  rintro e W1 ⟨A1, c1, rfl, hs1, hx1⟩
  have hml : (l.filter formedE).length ≤ 1034834473200 := Nat.le_trans (filter_le l) hb
  have HSO := Lib.hid (refSorted_any A1 c1 _ W1 hs1 hml)
  have HFS := Lib.hid (fun m (h : IsOrd (l.filter formedE) m) => And.intro (isSet_of h) (Nat.le_trans h.len hml))
  have HX1 := Lib.hid hx1
  generalize l.filter formedE = fl at HSO HFS hml
  clear hs1 hx1
  go_wp2_with fail
  refine HSO.out.mono ?_
  rintro e W2 ⟨m, hom, A2, c2, rfl, hs2, hx2⟩
  have HRS := Lib.hid (HFS.out m hom).1
  have hmm := (HFS.out m hom).2
  have HS2 := Lib.hid hs2; have HX2 := Lib.hid (HX1.out.trans hx2)
  have HFK := Lib.hid (fun (n : Nm) (w' : World) (h : Ext w w') => refIsForked_any A c l n w' (HS.out.ext h) hb)
  have HKB := Lib.hid (fun n => forkB_iff l n)
  clear hs2 hx2 hom
  go_wp2_with fail
  go_loopw [4, 5, 6] (fun ov iv _ wr => ∃ k : Nat, iv = .int .i64 k ∧ k ≤ m.length ∧ wr.ownsRow W2.heap.size 32 17 ov ((m.take k).filter (fun x => !forkB l (nmE x))).length (rowsE ((m.take k).filter (fun x => !forkB l (nmE x)))).flatten ∧ Ext W2 wr) (fun _ iv _ _ => m.length - (intOf iv).toNat)
  case atStart => exact ⟨0, rfl, Nat.zero_le _, World.ownsRow_nil _ _ _ _, Ext.refl _⟩
  case round =>
    obtain ⟨k, rfl, hk, ho, hx⟩ := hrel
    have HO := Lib.hid ho; have HX := Lib.hid hx
    obtain ⟨A7, c7, rfl, _⟩ := own_form ho
    by_cases hlt : k < m.length
    · obtain ⟨x, hxk⟩ : ∃ x, m[k]? = some x := ⟨_, List.getElem?_eq_getElem hlt⟩
      obtain ⟨b, off, rfl, hbl, hra⟩ := ed_row (HS2.out.ext hx) hxk
      have HRA := Lib.hid hra
      have HXM := Lib.hid (List.mem_of_getElem? hxk)
      have HT := Lib.hid (filter_snocP (fun x => !forkB l (nmE x)) m k x hxk)
      have hfl := Nat.le_trans (List.length_filter_le (fun x => !forkB l (nmE x)) (m.take k)) (List.length_take_le k m)
      generalize hfo : (m.take k).filter (fun x => !forkB l (nmE x)) = fo at HO HT hfl
      have HRAX := Lib.hid (fun wy (hy : Ext wr wy) => rangeAt_ext HRA.out hbl hy)
      have hk1 : ¬ ((m.length : Int) ≤ (k : Int)) := by omega
      clear hxk hra ho hx hfo

      cases hpx : ((fun x => !forkB l (nmE x))) x
      · have HP := Lib.hid hpx
        have hfk : forkB l (nmE x) = true := by simpa using hpx
        clear hpx
        go_wp2_with (first
          | (with_reducible refine wpList_load_mid rfl 32 (.tmp 19) rfl b (off + k * 17) rfl x.cells _ HRA.out Tryd.underlying32 rfl (by kernel_rfl) ?_)
          | (go_at_call 25; refine (refName_any x _).mono ?_; rintro e W8 ⟨rfl, x8⟩)
          | (go_at_call 34; refine (HFK.out (nmE x) _ (HX2.out.trans (HX.out.trans x8))).mono ?_; rintro e W9 ⟨bf, rfl, hbf, x9⟩; have hbt : bf = true := (hbf.trans (HKB.out (nmE x)).symm).2 hfk; subst hbt; replace x9 := x8.trans x9; clear hbf hfk x8))
        go_roundw
        case rel => exact ⟨k + 1, by go_num, by omega, by rw [HT.out, HP.out]; simpa using own_ext HO.out x9, HX.out.trans x9⟩
        case measure => simp [intOf]; omega
      · have HP := Lib.hid hpx
        have hfk : ¬ forkB l (nmE x) = true := by simpa using hpx
        clear hpx
        go_upto_region 8 with (first
          | (with_reducible refine wpList_load_mid rfl 32 (.tmp 19) rfl b (off + k * 17) rfl x.cells _ HRA.out Tryd.underlying32 rfl (by kernel_rfl) ?_)
          | (go_at_call 25; refine (refName_any x _).mono ?_; rintro e W8 ⟨rfl, x8⟩)
          | (go_at_call 34; refine (HFK.out (nmE x) _ (HX2.out.trans (HX.out.trans x8))).mono ?_; rintro e W9 ⟨bf, rfl, hbf, x9⟩; have hbt : bf = false := Bool.eq_false_iff.2 (fun h => hfk ((HKB.out (nmE x)).2 (hbf.1 h))); subst hbt; replace x9 := x8.trans x9; clear hbf hfk x8))
        have HRA2 := Lib.hid (HRAX.out W9 x9)
        have hx6 : Ext W9 (W9.alloc (.cells x.cells.toArray 32)) := (Ext.refl _).alloc _
        have HSN := Lib.hid (show Sv (W9.alloc (.cells x.cells.toArray 32)) (W9.alloc (.cells x.cells.toArray 32)).heap.size 17 (some ⟨W9.heap.size, 0, none⟩) 1 (rowsE [x]) from
          ⟨by simp [rowsE], by decide, rowsE_rwk _, fun _ => ⟨W9.heap.size, 0, rfl, by simp, fun j u hu => by
            rw [Nat.zero_add, cell_of_row _ _ _ _ _ _ (heap_alloc_new W9 _)]
            simpa [rowsE] using hu⟩⟩)
        have HO3 := Lib.hid (own_ext HO.out (x9.trans hx6))
        have HX3 := Lib.hid (HX.out.trans (x9.trans hx6))
        clear hx6
        go_wp2_with (first
          | (with_reducible refine wpList_load_mid rfl 32 (.tmp 28) rfl b (off + k * 17) rfl x.cells _ HRA2.out Tryd.underlying32 rfl (by kernel_rfl) ?_)
          | (refine wpList_buildRow rfl 22 32 29 rfl 17 (by decide) (by decide) x.cells rfl rfl Tryd.underlying22 (by kernel_rfl) (by kernel_rfl) ?_)
          | (at_builtin; refine wpList_append_sv _ rfl (.tmp 25) (.tmp 30) 22 rfl W2.heap.size 32 i0 (.agg #[.int .i64 0, .int .i64 0, .int .i64 0, .int .i64 0, .int .i64 0, .int .i64 0, .int .i64 0, .int .i64 0, .int .i64 0, .int .i64 0, .int .i64 0, .int .i64 0, .int .i64 0, .int .i64 0, .int .i64 0, .int .i64 0, .int .i64 0]) 17 136 Tryd.underlying22 HI.out HZ.out HZ1.out HZ2.out rfl (by decide) _ fo.length _ rfl HO3.out _ _ 1 1 (rowsE [x]) rfl HSN.out rfl (by unfold maxLen; omega) (by omega) HX3.out.size ?_; intro v6 W6 g1 g2 _))
        have HO6 := Lib.hid (show W6.ownsRow W2.heap.size 32 17 v6 (fo ++ [x]).length (rowsE (fo ++ [x])).flatten by rw [rowsE_append, List.flatten_append, List.length_append]; exact g1)
        have HX6 := Lib.hid (HX3.out.own HO3.out g2 (Nat.le_refl _))
        obtain ⟨A6, c6, rfl, _⟩ := own_form HO6.out
        clear g1 g2
        go_roundw
        case rel => exact ⟨k + 1, by go_num, by omega, by rw [HT.out, HP.out]; exact HO6.out, HX6.out⟩
        case measure => simp [intOf]; omega
    · obtain rfl : k = m.length := by omega
      rw [List.take_length] at HO
      rw [List.take_length]
      clear ho hx
      go_wp2_with fail
      go_ret
      exact ⟨_, HRS.out, A7, c7, rfl, Sv.of_own HO.out (rowsE_rwk _) (rowsE_length _), HX2.out.trans HX.out⟩
end Go.Proofs.YtcfebfblmmbeaaaDoor

/- The reference's undoer. -/
namespace Go.Proofs.YtcfebfblmmbeaaaDoor
open Go Go.RowKit

set_option maxRecDepth 100000 in
set_option maxHeartbeats 8000000 in
theorem refundoer_step (s : List Ed) (hq : ∀ u, u ∈ s → 1 ≤ u.st.seq ∧ u.st.seq ≤ 1000) (hb : s.length ≤ 1034834473200) (x : Ed) (A : Option Addr) (c : Nat)
    (ih : ∀ (u : Ed) (w : World), u ∈ s → x.st.seq < u.st.seq → Sv w w.heap.size 17 A c (rowsE s) → Calls Tryd.prog 35 #[.slice A s.length c, .agg u.cells.toArray] w fun e w' => ∃ v, e = .returned (.int .i64 v) ∧ ByIs (fun y => y ∈ s) u v ∧ Ext w w')
    (w : World) (hs : Sv w w.heap.size 17 A c (rowsE s)) :
    Calls Tryd.prog 35 #[.slice A s.length c, .agg x.cells.toArray] w fun e w' => ∃ v, e = .returned (.int .i64 v) ∧ ByIs (fun y => y ∈ s) x v ∧ Ext w w' := by
  have hm := mixed
  have HIH := Lib.hid ih
  have HQ := Lib.hid hq
  have HB0 := Lib.hid (Arr.new w 32 x.cells)
  have HX0 := Lib.hid (show Ext w (w.alloc (.cells x.cells.toArray 32)) from (Ext.refl w).alloc _)
  have HS := Lib.hid (hs.ext HX0.out)
  clear hs ih hq
  go_enter Tryd.func35, Tryd.ntmps35
  go_upto_region 1 with fail
  obtain ⟨W0, hW⟩ : ∃ W, W = w.alloc (.cells x.cells.toArray 32) := ⟨_, rfl⟩
  rw [← hW] at HB0 HX0 HS
  rw [← hW]
  clear hW
  obtain ⟨bx, hbx⟩ : ∃ b, b = w.heap.size := ⟨_, rfl⟩
  rw [← hbx] at HB0
  rw [← hbx]
  clear hbx
  go_wp2_with fail
  go_loopw [5, 6, 7] (fun bv iv _ wr => ∃ (k : Nat) (v : Int), iv = .int .i64 k ∧ k ≤ s.length ∧ bv = .int .i64 v ∧ ByT (fun y => y ∈ s) x (s.take k) v ∧ Ext W0 wr) (fun _ iv _ _ => s.length - (intOf iv).toNat)
  case atStart => exact ⟨0, 0, rfl, Nat.zero_le _, rfl, ByT.start, Ext.refl _⟩
  case round =>
    obtain ⟨k, v, rfl, hk, rfl, hbt, hx⟩ := hrel
    have HX := Lib.hid hx
    have HBT := Lib.hid hbt
    have hvr := hbt.range (fun u hu => (HQ.out u hu).2)
    clear hbt
    by_cases hlt : k < s.length
    · obtain ⟨u, hxk⟩ : ∃ u, s[k]? = some u := ⟨_, List.getElem?_eq_getElem hlt⟩
      obtain ⟨b, off, hA, hbl, hra⟩ := ed_row (HS.out.ext hx) hxk
      have HRA := Lib.hid hra
      have HUM := Lib.hid (List.mem_of_getElem? hxk)
      have HTK := Lib.hid (show s.take (k + 1) = s.take k ++ [u] from take_snocR hxk)
      have hk1 : ¬ ((s.length : Int) ≤ (k : Int)) := by omega
      have huq := HQ.out u HUM.out
      have HSA := Lib.hid hA
      subst hA
      clear hxk hra hbl hx
      go_upto_region 6 with (first
        | (with_reducible refine wpList_load_mid rfl 32 (.tmp 16) rfl b (off + k * 17) rfl u.cells _ HRA.out Tryd.underlying32 rfl (by kernel_rfl) ?_)
        | (refine wpList_store_blk 32 (.tmp 7) (.tmp 17) rfl rfl (Arr.new wr 32 [.int .i64 0, .int .i64 0, .int .i64 0, .int .i64 0, .int .i64 0, .int .i64 0, .int .i64 0, .int .i64 0, .int .i64 0, .int .i64 0, .int .i64 0, .int .i64 0, .int .i64 0, .int .i64 0, .int .i64 0, .int .i64 0, .int .i64 0]) u.cells rfl rfl (by kernel_rfl) rfl rfl ?_))
      have hB := (Arr.new wr 32 [.int .i64 0, .int .i64 0, .int .i64 0, .int .i64 0, .int .i64 0, .int .i64 0, .int .i64 0, .int .i64 0, .int .i64 0, .int .i64 0, .int .i64 0, .int .i64 0, .int .i64 0, .int .i64 0, .int .i64 0, .int .i64 0, .int .i64 0]).setRow u.cells
      have hx1 : Ext wr ((wr.alloc (.cells ([.int .i64 0, .int .i64 0, .int .i64 0, .int .i64 0, .int .i64 0, .int .i64 0, .int .i64 0, .int .i64 0, .int .i64 0, .int .i64 0, .int .i64 0, .int .i64 0, .int .i64 0, .int .i64 0, .int .i64 0, .int .i64 0, .int .i64 0] : List Value).toArray 32)).setRow wr.heap.size u.cells.toArray) := ((Ext.refl wr).alloc _).setRow (Nat.le_refl _) _
      obtain ⟨b7, hb7⟩ : ∃ b7, b7 = wr.heap.size := ⟨_, rfl⟩
      obtain ⟨W2, hW⟩ : ∃ W, W = (wr.alloc (.cells ([.int .i64 0, .int .i64 0, .int .i64 0, .int .i64 0, .int .i64 0, .int .i64 0, .int .i64 0, .int .i64 0, .int .i64 0, .int .i64 0, .int .i64 0, .int .i64 0, .int .i64 0, .int .i64 0, .int .i64 0, .int .i64 0, .int .i64 0] : List Value).toArray 32)).setRow wr.heap.size u.cells.toArray := ⟨_, rfl⟩
      rw [← hW, ← hb7] at hB
      rw [← hW] at hx1
      rw [← hW, ← hb7]
      have hc2 := hB.cell 2
      have hc3 := hB.cell 3
      have hc4 := hB.cell 4
      have hc16 := hB.cell 16
      rw [show u.cells[2]? = some (.int .i64 u.st.site) from rfl] at hc2
      rw [show u.cells[3]? = some (.int .i64 u.st.seq) from rfl] at hc3
      rw [show u.cells[4]? = some (.int .i64 u.kind) from rfl] at hc4
      rw [show u.cells[16]? = some (.int .i64 u.size) from rfl] at hc16
      have HX2 := Lib.hid (HX.out.trans hx1)
      have hBx := HB0.out.ext HX2.out
      have hd2 := hBx.cell 2
      have hd3 := hBx.cell 3
      rw [show x.cells[2]? = some (.int .i64 x.st.site) from rfl] at hd2
      rw [show x.cells[3]? = some (.int .i64 x.st.seq) from rfl] at hd3
      have lb7 := hB.lt
      have lbx := hBx.lt
      have HB7 := Lib.hid hB
      have hG := near_old
      clear hW hb7 hB hx1 hBx HRA
      by_cases h1 : u.kind = 6
      · by_cases h2 : u.st.site = x.st.site
        · by_cases h3 : u.st.seq ≤ x.st.seq
          · have HNE := Lib.hid (HBT.out.skip (u := u) (fun he => absurd he.1.2.1.2.2.1 (by omega)))
            go_wp2_with fail
            go_roundw
            case rel => exact ⟨k + 1, v, by go_num, by omega, rfl, HTK.out ▸ HNE.out, HX2.out⟩
            case measure => simp [intOf]; omega
          · by_cases h4 : u.size = x.st.seq
            · have HIU := Lib.hid (fun w h => HIH.out u w HUM.out (by omega) h)
              have HAI := Lib.hid (show Aims u x from ⟨h1, h2, by omega, h4⟩)
              have h3' : ¬ u.st.seq ≤ x.st.seq := h3
              rw [← HSA.out] at HIU HS ⊢
              go_wp2_with (first
                | (refine wpList_load_blk 32 (.tmp 7) rfl rfl HB7.out rfl _ Tryd.underlying32 rfl (by kernel_rfl) ?_))
              refine (HIU.out W2 (HS.out.ext HX2.out)).mono ?_
              rintro e W4 ⟨uv, rfl, huv, x4⟩
              have HX4 := Lib.hid (HX2.out.trans x4)
              have hB4 := HB7.out.ext x4
              have hc3 := hB4.cell 3
              rw [show u.cells[3]? = some (.int .i64 u.st.seq) from rfl] at hc3
              have hz := huv.zero (fun y hy => (HQ.out y hy).1)
              clear huv hB4 x4
              by_cases hu0 : uv = 0
              · have HE := Lib.hid (HBT.out.hit (u := u) ⟨⟨HUM.out, HAI.out, huq.2⟩, hz.1 hu0⟩ huq.1)
                clear hz
                go_wp2_with fail
                go_roundw
                case rel => exact ⟨k + 1, max v u.st.seq, by go_num, by omega, rfl, HTK.out ▸ HE.out, HX4.out⟩
                case measure => simp [intOf]; omega
              · have HNE := Lib.hid (HBT.out.skip (u := u) (fun he => hu0 (hz.2 he.2)))
                have hue : (uv == 0) = false := by simpa using hu0
                clear hz
                go_wp2_with fail
                go_roundw
                case rel => exact ⟨k + 1, v, by go_num, by omega, rfl, HTK.out ▸ HNE.out, HX4.out⟩
                case measure => simp [intOf]; omega
            · have h4e : (u.size == x.st.seq) = false := by simpa using h4
              have HNE := Lib.hid (HBT.out.skip (u := u) (fun he => h4 he.1.2.1.2.2.2))
              go_wp2_with fail
              go_roundw
              case rel => exact ⟨k + 1, v, by go_num, by omega, rfl, HTK.out ▸ HNE.out, HX2.out⟩
              case measure => simp [intOf]; omega
        · have h2e : (u.st.site == x.st.site) = false := by simpa using h2
          have HNE := Lib.hid (HBT.out.skip (u := u) (fun he => h2 he.1.2.1.2.1))
          go_wp2_with fail
          go_roundw
          case rel => exact ⟨k + 1, v, by go_num, by omega, rfl, HTK.out ▸ HNE.out, HX2.out⟩
          case measure => simp [intOf]; omega
      · have h1e : (u.kind == 6) = false := by simpa using h1
        have HNE := Lib.hid (HBT.out.skip (u := u) (fun he => h1 he.1.2.1.1))
        go_wp2_with fail
        go_roundw
        case rel => exact ⟨k + 1, v, by go_num, by omega, rfl, HTK.out ▸ HNE.out, HX2.out⟩
        case measure => simp [intOf]; omega
    · obtain rfl : k = s.length := by omega
      rw [List.take_length] at HBT
      go_wp2_with fail
      go_ret
      exact ⟨v, rfl, HBT.out.all (fun u hu => hu), HX0.out.trans hx⟩
theorem refundoer_any (s : List Ed) (hq : ∀ u, u ∈ s → 1 ≤ u.st.seq ∧ u.st.seq ≤ 1000) (hb : s.length ≤ 1034834473200) (A : Option Addr) (c : Nat) : ∀ (n : Nat) (x : Ed) (w : World), (1000 - x.st.seq).toNat ≤ n → Sv w w.heap.size 17 A c (rowsE s) →
    Calls Tryd.prog 35 #[.slice A s.length c, .agg x.cells.toArray] w fun e w' => ∃ v, e = .returned (.int .i64 v) ∧ ByIs (fun y => y ∈ s) x v ∧ Ext w w'
  | 0, x, w, hn, hs => refundoer_step s hq hb x A c (fun u w hu hlt _ => by have := hq u hu; omega) w hs
  | n + 1, x, w, hn, hs => refundoer_step s hq hb x A c (fun u w hu hlt hs => refundoer_any s hq hb A c n u w (by have := hq u hu; omega) hs) w hs
end Go.Proofs.YtcfebfblmmbeaaaDoor

/- The reference's Active, greatest, Undoable, Redoable. -/
namespace Go.Proofs.YtcfebfblmmbeaaaDoor
open Go Go.RowKit

set_option maxRecDepth 100000 in
set_option maxHeartbeats 8000000 in
theorem refActive_any (A : Option Addr) (c : Nat) (l : List Ed) (w : World) (hs : Sv w w.heap.size 17 A c (rowsE l)) (hb : l.length ≤ 1034834473200) :
    Calls Tryd.prog 22 #[.slice A l.length c] w fun e w' => ∃ m, IsAct l m ∧ RetE m w e w' := by
  obtain ⟨i0, hi, hz0, hz1, hz2⟩ := info_parts infoEd
  have HI := Lib.hid hi; have HZ := Lib.hid hz0; have HZ1 := Lib.hid hz1; have HZ2 := Lib.hid hz2; clear hi hz0 hz1 hz2
  have HSE := Lib.hid (refSet_any A c l w hs hb)
  clear hs
  go_enter Tryd.func22, Tryd.ntmps22
  go_wp2_with fail
  refine HSE.out.mono ?_
  rintro e W1 ⟨m, him, A2, c2, rfl, hs2, hx2⟩
  have hmm := Nat.le_trans him.len hb
  have hsq : ∀ u, u ∈ m → 1 ≤ u.st.seq ∧ u.st.seq ≤ 1000 := fun u hu => (formed_st ((him.mem u).1 hu).2.1).2.2.2
  have hM : (fun y => y ∈ m) = SetP l := by funext y; exact propext (him.mem y)
  have HUB := Lib.hid (fun x (hx : x ∈ m) (v : Int) (hv : ByIs (fun y => y ∈ m) x v) => show v = 0 ↔ ¬ undB m 1000 x = true by
    rw [hv.zero (fun u hu => (hsq u hu).1), undB_iff m 1000 x (by have := hsq x hx; omega)])
  have HRS := Lib.hid (isAct_of him (p := fun x => !undB m 1000 x) fun x hx => by
    rw [← hM, ← undB_iff m 1000 x (by have := hsq x hx; omega)]
    simp)
  have HUD := Lib.hid (fun (x : Ed) (w' : World) (h : Ext W1 w') => refundoer_any m hsq hmm A2 c2 _ x w' (Nat.le_refl _) (hs2.ext h))
  have HS2 := Lib.hid hs2; have HX2 := Lib.hid hx2
  clear hs2 hx2 him hsq hM
  go_wp2_with fail
  go_loopw [4, 5] (fun ov iv  wr => ∃ k : Nat, iv = .int .i64 k ∧ k ≤ m.length ∧ wr.ownsRow W1.heap.size 32 17 ov ((m.take k).filter (fun x => !undB m 1000 x)).length (rowsE ((m.take k).filter (fun x => !undB m 1000 x))).flatten ∧ Ext W1 wr) (fun _ iv  _ => m.length - (intOf iv).toNat)
  case atStart => exact ⟨0, rfl, Nat.zero_le _, World.ownsRow_nil _ _ _ _, Ext.refl _⟩
  case round =>
    obtain ⟨k, rfl, hk, ho, hx⟩ := hrel
    have HO := Lib.hid ho; have HX := Lib.hid hx
    obtain ⟨A7, c7, rfl, _⟩ := own_form ho
    by_cases hlt : k < m.length
    · obtain ⟨x, hxk⟩ : ∃ x, m[k]? = some x := ⟨_, List.getElem?_eq_getElem hlt⟩
      obtain ⟨b, off, rfl, hbl, hra⟩ := ed_row (HS2.out.ext hx) hxk
      have HRA := Lib.hid hra
      have HXM := Lib.hid (List.mem_of_getElem? hxk)
      have HT := Lib.hid (filter_snocP (fun x => !undB m 1000 x) m k x hxk)
      have hfl := Nat.le_trans (List.length_filter_le (fun x => !undB m 1000 x) (m.take k)) (List.length_take_le k m)
      generalize hfo : (m.take k).filter (fun x => !undB m 1000 x) = fo at HO HT hfl
      have HRAX := Lib.hid (fun wy (hy : Ext wr wy) => rangeAt_ext HRA.out hbl hy)
      have hk1 : ¬ ((m.length : Int) ≤ (k : Int)) := by omega
      clear hxk hra ho hx hfo

      cases hpx : ((fun x => !undB m 1000 x)) x
      · have HP := Lib.hid hpx
        have hfk : undB m 1000 x = true := by simpa using hpx
        clear hpx
        go_wp2_with (first
          | (with_reducible refine wpList_load_mid rfl 32 (.tmp 17) rfl b (off + k * 17) rfl x.cells _ HRA.out Tryd.underlying32 rfl (by kernel_rfl) ?_)
          | (go_at_call 35; refine (HUD.out x _ HX.out).mono ?_; rintro e W9 ⟨v, rfl, hbv, x9⟩; have hv0 : ¬ v = 0 := fun h => (HUB.out x HXM.out v hbv).1 h hfk; have hve : (v == 0) = false := (by simpa using hv0); clear hbv hfk))
        go_roundw
        case rel => exact ⟨k + 1, by go_num, by omega, by rw [HT.out, HP.out]; simpa using own_ext HO.out x9, HX.out.trans x9⟩
        case measure => simp [intOf]; omega
      · have HP := Lib.hid hpx
        have hfk : ¬ undB m 1000 x = true := by simpa using hpx
        clear hpx
        go_upto_region 7 with (first
          | (with_reducible refine wpList_load_mid rfl 32 (.tmp 17) rfl b (off + k * 17) rfl x.cells _ HRA.out Tryd.underlying32 rfl (by kernel_rfl) ?_)
          | (go_at_call 35; refine (HUD.out x _ HX.out).mono ?_; rintro e W9 ⟨v, rfl, hbv, x9⟩; have hv0 : v = 0 := (HUB.out x HXM.out v hbv).2 hfk; subst hv0; clear hbv hfk))
        have HRA2 := Lib.hid (HRAX.out W9 x9)
        have hx6 : Ext W9 (W9.alloc (.cells x.cells.toArray 32)) := (Ext.refl _).alloc _
        have HSN := Lib.hid (show Sv (W9.alloc (.cells x.cells.toArray 32)) (W9.alloc (.cells x.cells.toArray 32)).heap.size 17 (some ⟨W9.heap.size, 0, none⟩) 1 (rowsE [x]) from
          ⟨by simp [rowsE], by decide, rowsE_rwk _, fun _ => ⟨W9.heap.size, 0, rfl, by simp, fun j u hu => by
            rw [Nat.zero_add, cell_of_row _ _ _ _ _ _ (heap_alloc_new W9 _)]
            simpa [rowsE] using hu⟩⟩)
        have HO3 := Lib.hid (own_ext HO.out (x9.trans hx6))
        have HX3 := Lib.hid (HX.out.trans (x9.trans hx6))
        clear hx6
        go_wp2_with (first
          | (with_reducible refine wpList_load_mid rfl 32 (.tmp 24) rfl b (off + k * 17) rfl x.cells _ HRA2.out Tryd.underlying32 rfl (by kernel_rfl) ?_)
          | (refine wpList_buildRow rfl 22 32 25 rfl 17 (by decide) (by decide) x.cells rfl rfl Tryd.underlying22 (by kernel_rfl) (by kernel_rfl) ?_)
          | (at_builtin; refine wpList_append_sv _ rfl (.tmp 21) (.tmp 26) 22 rfl W1.heap.size 32 i0 (.agg #[.int .i64 0, .int .i64 0, .int .i64 0, .int .i64 0, .int .i64 0, .int .i64 0, .int .i64 0, .int .i64 0, .int .i64 0, .int .i64 0, .int .i64 0, .int .i64 0, .int .i64 0, .int .i64 0, .int .i64 0, .int .i64 0, .int .i64 0]) 17 136 Tryd.underlying22 HI.out HZ.out HZ1.out HZ2.out rfl (by decide) _ fo.length _ rfl HO3.out _ _ 1 1 (rowsE [x]) rfl HSN.out rfl (by unfold maxLen; omega) (by omega) HX3.out.size ?_; intro v6 W6 g1 g2 _))
        have HO6 := Lib.hid (show W6.ownsRow W1.heap.size 32 17 v6 (fo ++ [x]).length (rowsE (fo ++ [x])).flatten by rw [rowsE_append, List.flatten_append, List.length_append]; exact g1)
        have HX6 := Lib.hid (HX3.out.own HO3.out g2 (Nat.le_refl _))
        obtain ⟨A6, c6, rfl, _⟩ := own_form HO6.out
        clear g1 g2
        go_roundw
        case rel => exact ⟨k + 1, by go_num, by omega, by rw [HT.out, HP.out]; exact HO6.out, HX6.out⟩
        case measure => simp [intOf]; omega
    · obtain rfl : k = m.length := by omega
      rw [List.take_length] at HO
      rw [List.take_length]
      clear ho hx
      go_wp2_with fail
      go_ret
      exact ⟨_, HRS.out, A7, c7, rfl, Sv.of_own HO.out (rowsE_rwk _) (rowsE_length _), HX2.out.trans HX.out⟩

set_option maxRecDepth 100000 in
set_option maxHeartbeats 4000000 in
theorem refgreatest_any (A : Option Addr) (c : Nat) (l : List Ed) (site : Int) (undo : Bool) (w : World) (hs : Sv w w.heap.size 17 A c (rowsE l)) (hb : l.length ≤ 1034834473200) :
    Calls Tryd.prog 37 #[.slice A l.length c, .int .i64 site, .bool undo] w (RetG site undo l w) := by
  have HAC := Lib.hid (refActive_any A c l w hs hb)
  clear hs
  go_enter Tryd.func37, Tryd.ntmps37
  go_wp2_with (go_at_call 22; refine HAC.out.mono ?_; rintro e W1 ⟨m, ham, A1, c1, rfl, hs1, hx1⟩)
  have HS := Lib.hid hs1; have HX1 := Lib.hid hx1; have HAM := Lib.hid ham
  have hml : m.length ≤ 1034834473200 := ham.le hb
  clear hs1 hx1 ham
  go_loopw [9, 10] (fun bv i wr => ∃ k : Nat, i = .int .i64 k ∧ k ≤ m.length ∧ bv = .int .i64 (bestE site undo (m.take k)) ∧ Ext W1 wr) (fun _ i _ => m.length - (intOf i).toNat)
  case atStart => exact ⟨0, rfl, Nat.zero_le _, rfl, Ext.refl _⟩
  case round =>
    obtain ⟨k, rfl, hk, rfl, hx⟩ := hrel
    have HX := Lib.hid hx
    by_cases hlt : k < m.length
    · obtain ⟨x, hxk⟩ : ∃ x, m[k]? = some x := ⟨_, List.getElem?_eq_getElem hlt⟩
      obtain ⟨b, off, rfl, hbl, hra⟩ := ed_row (HS.out.ext hx) hxk
      have hc2 := hra 2 _ (show x.cells[2]? = some (.int .i64 x.st.site) from rfl)
      have hc3 := hra 3 _ (show x.cells[3]? = some (.int .i64 x.st.seq) from rfl)
      have hc4 := hra 4 _ (show x.cells[4]? = some (.int .i64 x.kind) from rfl)
      have htk : m.take (k + 1) = m.take k ++ [x] := take_snocR hxk
      have hbe : bestE site undo (m.take (k + 1)) = bestS site undo (bestE site undo (m.take k)) x := by rw [htk, bestE_snoc]
      have HBE := Lib.hid hbe
      clear hx hxk hra htk hbe
      generalize bestE site undo (m.take k) = bb at HBE
      have HHB := Lib.hid (show hitB site undo x = (decide (x.st.site = site) && (decide (x.kind = 6) == undo)) from rfl)
      by_cases h1 : x.st.site = site
      · by_cases h2 : x.kind = 6
        · cases undo
          all_goals
            go_wp2_with fail
            go_roundw
            case rel => exact ⟨k + 1, by go_num, by omega, by rw [HBE.out]; unfold bestS; rw [HHB.out]; simp [h1, h2], HX.out⟩
            case measure => simp [intOf]; omega
        · have hke : (x.kind == 6) = false := by simpa using h2
          cases undo
          all_goals
            go_wp2_with fail
            go_roundw
            case rel => exact ⟨k + 1, by go_num, by omega, by rw [HBE.out]; unfold bestS; rw [HHB.out]; simp [h1, h2], HX.out⟩
            case measure => simp [intOf]; omega
      · have hse : (x.st.site == site) = false := by simpa using h1
        go_wp2_with fail
        go_roundw
        case rel => exact ⟨k + 1, by go_num, by omega, by rw [HBE.out]; unfold bestS; rw [HHB.out]; simp [h1], HX.out⟩
        case measure => simp [intOf]; omega
    · obtain rfl : k = m.length := by omega
      rw [List.take_length]
      clear hx
      go_wp2_with fail
      go_ret2
      exact ⟨m, HAM.out, rfl, HX1.out.trans HX.out⟩
set_option maxHeartbeats 1000000 in
theorem refUndoable_any (A : Option Addr) (c : Nat) (l : List Ed) (site : Int) (w : World) (hs : Sv w w.heap.size 17 A c (rowsE l)) (hb : l.length ≤ 1034834473200) :
    Calls Tryd.prog 12 #[.slice A l.length c, .int .i64 site] w (RetG site false l w) := by
  have HG := Lib.hid (refgreatest_any A c l site false w hs hb)
  clear hs
  go_enter Tryd.func12, Tryd.ntmps12
  go_wp2_with (go_at_call 37; refine HG.out.mono ?_; rintro e W1 ⟨m, ham, rfl, hx1⟩)
  go_ret2
  exact ⟨m, ham, rfl, hx1⟩
set_option maxHeartbeats 1000000 in
theorem refRedoable_any (A : Option Addr) (c : Nat) (l : List Ed) (site : Int) (w : World) (hs : Sv w w.heap.size 17 A c (rowsE l)) (hb : l.length ≤ 1034834473200) :
    Calls Tryd.prog 14 #[.slice A l.length c, .int .i64 site] w (RetG site true l w) := by
  have HG := Lib.hid (refgreatest_any A c l site true w hs hb)
  clear hs
  go_enter Tryd.func14, Tryd.ntmps14
  go_wp2_with (go_at_call 37; refine HG.out.mono ?_; rintro e W1 ⟨m, ham, rfl, hx1⟩)
  go_ret2
  exact ⟨m, ham, rfl, hx1⟩
end Go.Proofs.YtcfebfblmmbeaaaDoor
