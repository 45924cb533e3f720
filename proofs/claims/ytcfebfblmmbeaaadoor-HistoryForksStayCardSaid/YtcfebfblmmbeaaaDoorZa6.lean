/- YtcfebfblmmbeaaaDoorAc · YtcfebfblmmbeaaaDoorSq · YtcfebfblmmbeaaaDoorGb2 · YtcfebfblmmbeaaaDoorSu · YtcfebfblmmbeaaaDoorHf · YtcfebfblmmbeaaaDoorEf · YtcfebfblmmbeaaaDoorRf · YtcfebfblmmbeaaaDoorRg · YtcfebfblmmbeaaaDoorRh -/
import Derived.Deep.DeepCutAuto
import Derived.Test.YtcfebfblmmbeaaaDoorZa5
/- history.Active. -/
namespace Go.Proofs.YtcfebfblmmbeaaaDoor
open Go Go.RowKit

/-- The map without the names that a range over the undone ones has met. -/
def dropF (F : Nm → Option Ed) (G : Nm → Option Int) (left : List Nm) (n : Nm) : Option Ed := if (G n).isSome ∧ n ∉ left then none else F n
theorem mapE_drop {F : Nm → Option Ed} {G : Nm → Option Int} {left : List Nm} (hl : left.Nodup) {q : Nm} (hq : q ∈ left) (hg : (G q).isSome = true) (n : Nm) : (if n = q then none else mapE (dropF F G left) n) = mapE (dropF F G (left.erase q)) n := by
  unfold mapE dropF
  by_cases h : n = q
  · subst h
    rw [if_pos rfl, if_pos ⟨hg, fun h => (hl.mem_erase_iff.1 h).1 rfl⟩]; rfl
  · rw [if_neg h]
    have : n ∈ left.erase q ↔ n ∈ left := by rw [hl.mem_erase_iff]; exact ⟨fun h => h.2, fun k => ⟨h, k⟩⟩
    simp only [this]
set_option maxRecDepth 100000 in
set_option maxHeartbeats 4000000 in
theorem Active_any (A : Option Addr) (c : Nat) (l : List Ed) (w : World) (hs : Sv w w.heap.size 17 A c (rowsE l)) (hb : l.length ≤ 1034834473200) (hR : RowsIn w) :
    Calls Tryd.prog 21 #[.slice A l.length c] w fun e w' => ∃ m, IsAct l m ∧ RetE m w e w' := by
  have HB := Lib.hid (byName_any A c l w hs hb hR)
  clear hs hR
  go_enter Tryd.func21, Tryd.ntmps21
  go_upto_region 2 with (go_at_call 31; refine HB.out.mono ?_; rintro e W1 ⟨bm, F, f, A1, c1, rfl, hm1, hF, hf, hs1, hx1, hbm⟩)
  have HU := Lib.hid (undone_any bm (SetP l) F W1 (goodSet l) hm1 hF (fin_set l hb))
  have HM1 := Lib.hid hm1; have HX1 := Lib.hid hx1; have HBM := Lib.hid hbm; have HF := Lib.hid hF
  clear hm1 hF hf hs1 hx1 hbm
  go_wp2_with (first
    | (go_at_call 32; refine HU.out.mono ?_; rintro e W2 ⟨ub, G, done, rfl, hm2, hun, hall, hx2, hub⟩; have HM2 := Lib.hid hm2; have HUN := Lib.hid hun; have HALL := Lib.hid hall; have HX2 := Lib.hid hx2; have HUB := Lib.hid hub; clear hm2 hun hall hx2 hub)
    | (at_range; refine wpList_range_F rfl (.tmp 12) rfl HM2.out Tryd.underlying55 rfl ?_; intro left0 W3 hl0 hr0 hx0))
  have hne : bm ≠ ub := fun e => by have := HM1.out.lt; have := HUB.out; omega
  obtain ⟨r, hr⟩ : ∃ r, r = W2.heap.size := ⟨_, rfl⟩
  rw [← hr] at hr0
  (try rw [← hr])
  have HRB := Lib.hid (show W2.heap.size ≤ r by omega)
  have HBR := Lib.hid (show bm < W2.heap.size from Nat.lt_of_lt_of_le HM1.out.lt HX2.out.size)
  clear hr
  go_frame
  go_loopw [] (fun wr => ∃ (left : List Nm) (last : Option Nm), (∀ q, q ∈ left → (G q).isSome = true) ∧ RngF nmV wr ub r (mapI G) left last ∧ MapF nmV wr bm (mapE (dropF F G left)) ∧ Ext w wr) (fun wr => leftN wr ub r)
  case atStart =>
    have hms : ∀ q, (mapI G q).isSome = (G q).isSome := fun q => by unfold mapI; rw [Option.isSome_map]
    refine ⟨left0, none, fun q hq => by rw [← hms]; exact (hl0 q).1 hq, hr0, (((HM1.out.ext HX2.out).ext hx0).cong fun q => ?_), (HX1.out.trans HX2.out).trans hx0⟩
    unfold mapE dropF
    rw [if_neg]
    rintro ⟨h1, h2⟩
    exact h2 ((hl0 q).2 (by rw [hms]; exact h1))
  case round =>
    obtain ⟨left, last, hlg, hrg, hmb, hx⟩ := hrel
    have HLG := Lib.hid hlg; have HRG := Lib.hid hrg; have HMB := Lib.hid hmb; have HX := Lib.hid hx
    clear hlg hrg hmb hx
    go_wp2_with (at_next; refine wpList_next_F rfl (.tmp 13) rfl HRG.out rfl ?_ ?_)
    · intro hl0
      subst hl0
      have hsm : SaysM (ActP l) (dropF F G []) := fun n x => by
        have h := HUN.out.act (goodSet l) HALL.out HF.out n x
        unfold dropF
        simpa [ActP] using h
      have HSO := Lib.hid (sorted_any bm (ActP l) (dropF F G []) wr ⟨fun hx hy h => (goodSet l).name hx.1 hy.1 h, fun h => (goodSet l).frm h.1⟩ HMB.out hsm (fun o hn ho => fin_set l hb o hn (fun x hx => (ho x hx).1)))
      clear hsm
      go_wp2_with (go_at_call 38; refine HSO.out.mono ?_; rintro e W5 ⟨m, hm1, hm2, A2, c2, rfl, hs2, hx2⟩)
      go_ret
      exact ⟨m, ⟨hm1, hm2⟩, A2, c2, rfl, hs2, HX.out.trans hx2⟩
    · intro q v W4 hq hv hrg1 hg1 hs1 hen
      have HQ := Lib.hid hq
      have hlf : leftN W4 ub r < leftN wr ub r := by
        rw [hrg1.count, HRG.out.count, List.length_erase_of_mem hq]
        have := List.length_pos_of_mem hq
        omega
      have HLF := Lib.hid hlf
      have HRG1 := Lib.hid hrg1
      have HX4 := Lib.hid (HX.out.grown hg1 (fun k hk => by injection hk with hk; have := HRB.out; have := HX2.out.size; have := HX1.out.size; omega))
      have HMB4 := Lib.hid (HMB.out.kept hg1 (fun e => by injection e with e; have := HRB.out; have := HBR.out; omega))
      clear hrg1 hg1 hs1 hq hv hlf
      have hx1 : Ext W4 ((W4.alloc (.cells ([.int .i64 0, .int .i64 0] : List Value).toArray 24)).setRow W4.heap.size q.cells.toArray) := ((Ext.refl W4).alloc _).setRow (Nat.le_refl _) _
      have HBN := Lib.hid ((Arr.new W4 24 [.int .i64 0, .int .i64 0]).setRow q.cells)
      go_upto_region 5 with (refine wpList_store_blk 24 (.tmp 5) (.tmp 17) rfl rfl (Arr.new W4 24 [.int .i64 0, .int .i64 0]) q.cells rfl rfl (by kernel_rfl) rfl rfl ?_)
      obtain ⟨nb, hnb⟩ : ∃ nb, nb = W4.heap.size := ⟨_, rfl⟩
      obtain ⟨W5, hW⟩ : ∃ W, W = (W4.alloc (.cells ([.int .i64 0, .int .i64 0] : List Value).toArray 24)).setRow W4.heap.size q.cells.toArray := ⟨_, rfl⟩
      rw [← hW, ← hnb] at HBN
      rw [← hW] at hx1
      rw [← hW, ← hnb]
      have HX5 := Lib.hid (HX4.out.trans hx1); have HMB5 := Lib.hid (HMB4.out.ext hx1); have HRG5 := Lib.hid (HRG1.out.ext hx1)
      clear hW hnb hx1 hen
      go_wp2_with (first
        | (refine wpList_load_blk 24 (.tmp 5) rfl rfl HBN.out rfl _ Tryd.underlying24 rfl (by kernel_rfl) ?_)
        | (refine wpList_delete_F rfl (.tmp 18) (.tmp 19) rfl HMB5.out ktNm Tryd.underlying51 q rfl rfl ?_; intro W6 hm6 hg6))
      have HRG6 := Lib.hid (HRG5.out.kept hg6 (fun e => by injection e with e; exact hne e) (fun e => by injection e with e; have := HRB.out; have := HBR.out; omega))
      have HMB6 := Lib.hid (hm6.cong (mapE_drop HRG.out.nodup HQ.out (HLG.out q HQ.out)))
      have HX6 := Lib.hid (HX5.out.grown hg6 (fun k hk => by injection hk with hk; have := HBM.out; omega))
      clear hm6 hg6
      refine ⟨⟨_, _, _, _, _, _, _, ?rel, rfl⟩, ?measure⟩
      case rel => exact ⟨left.erase q, some q, fun p hp => HLG.out p (List.mem_of_mem_erase hp), HRG6.out, HMB6.out, HX6.out⟩
      case measure => rw [HRG6.out.count, ← HRG1.out.count]; exact HLF.out
end Go.Proofs.YtcfebfblmmbeaaaDoor

/- slices.Contains at names, slices.Equal at edits; history.Same, greatest, Undoable, Redoable. -/
namespace Go.Proofs.YtcfebfblmmbeaaaDoor
open Go Go.RowKit

theorem eqAtNm : EqlAt Tryd.prog 24 (fun x : Nm => .agg x.cells.toArray) (fun x y => decide (x = y)) :=
  ⟨fun x y w => eqNm_run x y w, GuardAt.agg _ (by kernel_rfl)⟩
theorem neqAtEd : NeqAt Tryd.prog 32 (fun x : Ed => .agg x.cells.toArray) (fun x y => decide (x = y)) :=
  ⟨fun x y w => by rw [neqEd_run]; by_cases h : x = y <;> simp [h], GuardAt.agg _ (by kernel_rfl)⟩
set_option maxHeartbeats 1000000 in
theorem IndexNm_nil (A : Option Addr) (c : Nat) (p : Nm) (w : World) :
    Calls Tryd.prog 48 #[.slice A 0 c, nmV p] w fun e w' => e = .returned (.int .i64 (-1)) ∧ Ext w w' := by
  unfold nmV
  go_enter Tryd.func48, Tryd.ntmps48
  go_wp2
  go_loopw [8] (fun i wr => i = .int .i64 0 ∧ Ext w wr) (fun _ _ => 0)
  case atStart => exact ⟨rfl, (by repeat (first | with_reducible exact Ext.refl _ | with_reducible assumption | with_reducible refine Ext.alloc ?_ _ | with_reducible refine Ext.drew ?_ | (with_reducible refine Ext.setCell ?_ ?_ _; rotate_left; focus (first | (simp; done) | (simp; omega) | omega)) | (with_reducible refine Ext.setRow ?_ ?_ _; rotate_left; focus (first | (simp; done) | (simp; omega) | omega)) | with_reducible refine Ext.trans ?_ (by with_reducible assumption)))⟩
  case round =>
    obtain ⟨rfl, hx⟩ := hrel
    go_wp2
    go_ret
    exact ⟨rfl, hx⟩
set_option maxHeartbeats 1000000 in
theorem ContainsNm_nil (A : Option Addr) (c : Nat) (p : Nm) (w : World) :
    Calls Tryd.prog 33 #[.slice A 0 c, nmV p] w fun e w' => e = .returned (.bool false) ∧ Ext w w' := by
  have HB := Lib.hid (Arr.new w 24 [.int .i64 p.site, .int .i64 p.seq])
  have hx1 : Ext w (w.alloc (.cells ([.int .i64 p.site, .int .i64 p.seq] : List Value).toArray 24)) := (Ext.refl w).alloc _
  have HX := Lib.hid hx1
  have HIN := Lib.hid (IndexNm_nil A 0 p w)
  clear hx1
  unfold nmV
  go_enter Tryd.func33, Tryd.ntmps33
  go_upto_region 1 with fail
  go_wp2_with (first
    | (refine wpList_load_blk 24 (.tmp 3) rfl rfl HB.out rfl _ Tryd.underlying24 rfl (by kernel_rfl) ?_)
    | (go_at_call 48; refine (IndexNm_nil A c p _).mono ?_; rintro e W2 ⟨rfl, hx2⟩))
  go_ret
  exact ⟨rfl, HX.out.trans hx2⟩
theorem ContainsNm_any (l : List Nm) (A : Option Addr) (c : Nat) (w : World) (hs : Sv w w.heap.size 2 A c (rowsN l)) (hb : l.length ≤ 1034834473200) (p : Nm) :
    Calls Tryd.prog 33 #[.slice A l.length c, nmV p] w fun e w' => e = .returned (.bool (decide (p ∈ l))) ∧ Ext w w' := by
  rcases Nat.eq_zero_or_pos l.length with h0 | h0
  · have hl : l = [] := List.eq_nil_of_length_eq_zero h0
    subst hl
    have := ContainsNm_nil A c p w
    simpa using this
  · obtain ⟨b, off, rfl, hbl, hc⟩ := hs.mem (by rw [rowsN_length]; exact h0)
    have hcon := AnyQ.slices_Contains Tryd.containsNm 2 Tryd.isAgg24 Tryd.sizeOf24 Nm.cells (fun _ => rfl) (fun x y => decide (x = y)) eqAtNm b off l.length c l p w (Nat.le_refl _) (by omega) (fun j hj i u hu => by
      obtain ⟨b', off', e, _, hr⟩ := hs.row (i := j) (x := (l[j]).cells) (by simp [rowsN, hj])
      injection e with e
      injection e with e1 e2
      subst e1 e2
      rw [getElem!_pos l j hj] at hu
      exact hr i u hu)
    refine hcon.mono fun e w' ⟨he, hb⟩ => ⟨?_, ⟨hb⟩⟩
    rw [he, List.take_length]
    exact ret_bool (by rw [Bool.eq_iff_iff]; simp)
theorem EqualEd_any (l m : List Ed) (A B : Option Addr) (c d : Nat) (w : World) (hs : Sv w w.heap.size 17 A c (rowsE l)) (ht : Sv w w.heap.size 17 B d (rowsE m)) (hb : l.length ≤ 1034834473200) (hc : m.length ≤ 1034834473200) :
    Calls Tryd.prog 41 #[.slice A l.length c, .slice B m.length d] w fun e w' => e = .returned (.bool (decide (l = m))) ∧ Ext w w' := by
  have key : ∀ l m : List Ed, Lib.allEq (fun x y : Ed => decide (x = y)) l m = decide (l = m) := fun l m => by
    rw [Bool.eq_iff_iff, decide_eq_true_eq]
    induction l generalizing m with
    | nil => cases m <;> simp [Lib.allEq]
    | cons x xs ih => cases m <;> simp [Lib.allEq, ih]
  by_cases hlm : l.length = m.length
  · rcases Nat.eq_zero_or_pos l.length with h0 | h0
    · have hl : l = [] := List.eq_nil_of_length_eq_zero h0
      have hm : m = [] := List.eq_nil_of_length_eq_zero (by omega)
      subst hl hm
      clear hs ht key
      go_enter Tryd.func41, Tryd.ntmps41
      go_wp2
      go_loopw [13] (fun i wr => i = .int .i64 0 ∧ Ext w wr) (fun _ _ => 0)
      case atStart => exact ⟨rfl, Ext.refl _⟩
      case round =>
        obtain ⟨rfl, hx⟩ := hrel
        go_wp2
        go_ret
        exact ⟨rfl, hx⟩
    · obtain ⟨b1, o1, rfl, _, _⟩ := hs.mem (by rw [rowsE_length]; exact h0)
      obtain ⟨b2, o2, rfl, _, _⟩ := ht.mem (by rw [rowsE_length]; omega)
      have hcon := AnyQ.slices_Equal Tryd.equalEd 17 Tryd.isAgg32 Tryd.sizeOf32 Ed.cells (fun _ => rfl) (fun x y => decide (x = y)) neqAtEd b1 o1 l.length c b2 o2 m.length d l m w (Nat.le_refl _) (Nat.le_refl _) (by omega) (by omega) (fun j hj i u hu => by
        obtain ⟨b', off', e, _, hr⟩ := hs.row (i := j) (x := (l[j]).cells) (by simp [rowsE, hj])
        injection e with e
        injection e with e1 e2
        subst e1 e2
        rw [getElem!_pos l j hj] at hu
        exact hr i u hu) (fun j hj i u hu => by
        obtain ⟨b', off', e, _, hr⟩ := ht.row (i := j) (x := (m[j]).cells) (by simp [rowsE, hj])
        injection e with e
        injection e with e1 e2
        subst e1 e2
        rw [getElem!_pos m j hj] at hu
        exact hr i u hu)
      refine hcon.mono fun e w' ⟨he, q, hw⟩ => ⟨?_, ?_⟩
      · rw [he, List.take_length, List.take_length, key]
      · rw [hw]; exact (Ext.refl w).drewN q
  · have hd : decide (l = m) = false := decide_eq_false (fun e => hlm (by rw [e]))
    have hdi : ¬ ((l.length : Int) = (m.length : Int)) := by omega
    rw [hd]
    clear hs ht key hd
    go_enter Tryd.func41, Tryd.ntmps41
    go_wp2
    go_ret
    exact ⟨rfl, Ext.refl _⟩
set_option maxHeartbeats 1000000 in
theorem Same_any (l m : List Ed) (A B : Option Addr) (c d : Nat) (w : World) (hs : Sv w w.heap.size 17 A c (rowsE l)) (ht : Sv w w.heap.size 17 B d (rowsE m)) (hb : l.length ≤ 1034834473200) (hc : m.length ≤ 1034834473200) :
    Calls Tryd.prog 23 #[.slice A l.length c, .slice B m.length d] w fun e w' => e = .returned (.bool (decide (l = m))) ∧ Ext w w' := by
  have HE := Lib.hid (EqualEd_any l m A B c d w hs ht hb hc)
  clear hs ht
  go_enter Tryd.func23, Tryd.ntmps23
  go_wp2_with (go_at_call 41; refine HE.out.mono ?_; rintro e W2 ⟨rfl, hx2⟩)
  go_ret
  exact ⟨rfl, hx2⟩
end Go.Proofs.YtcfebfblmmbeaaaDoor

/- history.greatest, Undoable, Redoable. -/
namespace Go.Proofs.YtcfebfblmmbeaaaDoor
open Go Go.RowKit

def hitB (site : Int) (undo : Bool) (x : Ed) : Bool := decide (x.st.site = site) && (decide (x.kind = 6) == undo)
def bestS (site : Int) (undo : Bool) (b : Int) (x : Ed) : Int := if hitB site undo x then max b x.st.seq else b
/-- The greatest number of an edit of the list that hits; or 0. -/
def bestE (site : Int) (undo : Bool) (l : List Ed) : Int := l.foldl (bestS site undo) 0
theorem bestE_snoc (site : Int) (undo : Bool) (l : List Ed) (x : Ed) : bestE site undo (l ++ [x]) = bestS site undo (bestE site undo l) x := by
  unfold bestE; rw [List.foldl_append]; rfl
def RetG (site : Int) (undo : Bool) (l : List Ed) (w : World) (en : Ending) (w' : World) : Prop :=
  ∃ m, IsAct l m ∧ en = .returned (.tuple #[.int .i64 (bestE site undo m), .bool (decide (0 < bestE site undo m))]) ∧ Ext w w'
theorem IsAct.le {l m : List Ed} (h : IsAct l m) (hb : l.length ≤ 1034834473200) : m.length ≤ 1034834473200 := fin_set l hb m (h.srt.nodup ordE) fun x hx => ((h.mem x).1 hx).1
set_option maxRecDepth 100000 in
set_option maxHeartbeats 4000000 in
theorem greatest_any (A : Option Addr) (c : Nat) (l : List Ed) (site : Int) (undo : Bool) (w : World) (hs : Sv w w.heap.size 17 A c (rowsE l)) (hb : l.length ≤ 1034834473200) (hR : RowsIn w) :
    Calls Tryd.prog 36 #[.slice A l.length c, .int .i64 site, .bool undo] w (RetG site undo l w) := by
  have HAC := Lib.hid (Active_any A c l w hs hb hR)
  clear hs hR
  go_enter Tryd.func36, Tryd.ntmps36
  go_wp2_with (go_at_call 21; refine HAC.out.mono ?_; rintro e W1 ⟨m, ham, A1, c1, rfl, hs1, hx1⟩)
  have HS := Lib.hid hs1; have HX1 := Lib.hid hx1; have HAM := Lib.hid ham
  have hml : m.length ≤ 1034834473200 := ham.le hb
  clear hs1 hx1 ham
  go_loopw [8, 14] (fun bv i wr => ∃ k : Nat, i = .int .i64 k ∧ k ≤ m.length ∧ bv = .int .i64 (bestE site undo (m.take k)) ∧ Ext W1 wr) (fun _ i _ => m.length - (intOf i).toNat)
  case atStart => exact ⟨0, rfl, Nat.zero_le _, rfl, Ext.refl _⟩
  case round =>
    obtain ⟨k, rfl, hk, rfl, hx⟩ := hrel
    have HX := Lib.hid hx
    by_cases hlt : k < m.length
    · obtain ⟨x, hx⟩ : ∃ x, m[k]? = some x := ⟨_, List.getElem?_eq_getElem hlt⟩
      obtain ⟨b, off, rfl, hbl, hra⟩ := ed_row HS.out hx
      have HRA := Lib.hid (rangeAt_ext hra hbl HX.out)
      have htk : m.take (k + 1) = m.take k ++ [x] := take_snocR hx
      have hbe : bestE site undo (m.take (k + 1)) = bestS site undo (bestE site undo (m.take k)) x := by rw [htk, bestE_snoc]
      have HBE := Lib.hid hbe
      clear hx hra hbl htk hbe
      generalize bestE site undo (m.take k) = bb at HBE
      go_upto_region 5 with (first
        | (with_reducible refine wpList_load_mid rfl 32 (.tmp 16) rfl b (off + k * 17) rfl x.cells _ HRA.out Tryd.underlying32 rfl (by kernel_rfl) ?_)
        | (refine wpList_store_blk 32 (.tmp 10) (.tmp 17) rfl rfl (Arr.new wr 32 [.int .i64 0, .int .i64 0, .int .i64 0, .int .i64 0, .int .i64 0, .int .i64 0, .int .i64 0, .int .i64 0, .int .i64 0, .int .i64 0, .int .i64 0, .int .i64 0, .int .i64 0, .int .i64 0, .int .i64 0, .int .i64 0, .int .i64 0]) x.cells rfl rfl (by kernel_rfl) rfl rfl ?_))
      have hB := (Arr.new wr 32 [.int .i64 0, .int .i64 0, .int .i64 0, .int .i64 0, .int .i64 0, .int .i64 0, .int .i64 0, .int .i64 0, .int .i64 0, .int .i64 0, .int .i64 0, .int .i64 0, .int .i64 0, .int .i64 0, .int .i64 0, .int .i64 0, .int .i64 0]).setRow x.cells
      have hx1 : Ext wr ((wr.alloc (.cells ([.int .i64 0, .int .i64 0, .int .i64 0, .int .i64 0, .int .i64 0, .int .i64 0, .int .i64 0, .int .i64 0, .int .i64 0, .int .i64 0, .int .i64 0, .int .i64 0, .int .i64 0, .int .i64 0, .int .i64 0, .int .i64 0, .int .i64 0] : List Value).toArray 32)).setRow wr.heap.size x.cells.toArray) := ((Ext.refl wr).alloc _).setRow (Nat.le_refl _) _
      obtain ⟨b7, hb7⟩ : ∃ b7, b7 = wr.heap.size := ⟨_, rfl⟩
      obtain ⟨W2, hW⟩ : ∃ W, W = (wr.alloc (.cells ([.int .i64 0, .int .i64 0, .int .i64 0, .int .i64 0, .int .i64 0, .int .i64 0, .int .i64 0, .int .i64 0, .int .i64 0, .int .i64 0, .int .i64 0, .int .i64 0, .int .i64 0, .int .i64 0, .int .i64 0, .int .i64 0, .int .i64 0] : List Value).toArray 32)).setRow wr.heap.size x.cells.toArray := ⟨_, rfl⟩
      rw [← hW, ← hb7] at hB
      rw [← hW] at hx1
      rw [← hW, ← hb7]
      have hc2 := hB.cell 2
      have hc3 := hB.cell 3
      have hc4 := hB.cell 4
      rw [show x.cells[2]? = some (.int .i64 x.st.site) from rfl] at hc2
      rw [show x.cells[3]? = some (.int .i64 x.st.seq) from rfl] at hc3
      rw [show x.cells[4]? = some (.int .i64 x.kind) from rfl] at hc4
      have HX2 := Lib.hid (HX.out.trans hx1)
      clear hW hb7 hB hx1 HRA
      have HHB := Lib.hid (show hitB site undo x = (decide (x.st.site = site) && (decide (x.kind = 6) == undo)) from rfl)
      by_cases h1 : x.st.site = site
      · by_cases h2 : x.kind = 6
        · cases undo
          · go_wp2_with fail
            go_roundw
            case rel => exact ⟨k + 1, by go_num, by omega, by rw [HBE.out]; unfold bestS; rw [HHB.out]; simp [h1, h2], HX2.out⟩
            case measure => simp [intOf]; omega
          · go_wp2_with fail
            go_roundw
            case rel => exact ⟨k + 1, by go_num, by omega, by rw [HBE.out]; unfold bestS; rw [HHB.out]; simp [h1, h2], HX2.out⟩
            case measure => simp [intOf]; omega
        · have hke : (x.kind == 6) = false := by simpa using h2
          cases undo
          · go_wp2_with fail
            go_roundw
            case rel => exact ⟨k + 1, by go_num, by omega, by rw [HBE.out]; unfold bestS; rw [HHB.out]; simp [h1, h2], HX2.out⟩
            case measure => simp [intOf]; omega
          · go_wp2_with fail
            go_roundw
            case rel => exact ⟨k + 1, by go_num, by omega, by rw [HBE.out]; unfold bestS; rw [HHB.out]; simp [h1, h2], HX2.out⟩
            case measure => simp [intOf]; omega
      · go_wp2_with fail
        go_roundw
        case rel => exact ⟨k + 1, by go_num, by omega, by rw [HBE.out]; unfold bestS; rw [HHB.out]; simp [h1], HX2.out⟩
        case measure => simp [intOf]; omega
    · obtain rfl : k = m.length := by omega
      rw [List.take_length]
      clear hx
      go_wp2_with fail
      go_ret2
      exact ⟨m, HAM.out, rfl, HX1.out.trans HX.out⟩
set_option maxHeartbeats 1000000 in
theorem Undoable_any (A : Option Addr) (c : Nat) (l : List Ed) (site : Int) (w : World) (hs : Sv w w.heap.size 17 A c (rowsE l)) (hb : l.length ≤ 1034834473200) (hR : RowsIn w) :
    Calls Tryd.prog 11 #[.slice A l.length c, .int .i64 site] w (RetG site false l w) := by
  have HG := Lib.hid (greatest_any A c l site false w hs hb hR)
  clear hs hR
  go_enter Tryd.func11, Tryd.ntmps11
  go_wp2_with (go_at_call 36; refine HG.out.mono ?_; rintro e W1 ⟨m, ham, rfl, hx1⟩)
  go_ret2
  exact ⟨m, ham, rfl, hx1⟩
set_option maxHeartbeats 1000000 in
theorem Redoable_any (A : Option Addr) (c : Nat) (l : List Ed) (site : Int) (w : World) (hs : Sv w w.heap.size 17 A c (rowsE l)) (hb : l.length ≤ 1034834473200) (hR : RowsIn w) :
    Calls Tryd.prog 13 #[.slice A l.length c, .int .i64 site] w (RetG site true l w) := by
  have HG := Lib.hid (greatest_any A c l site true w hs hb hR)
  clear hs hR
  go_enter Tryd.func13, Tryd.ntmps13
  go_wp2_with (go_at_call 36; refine HG.out.mono ?_; rintro e W1 ⟨m, ham, rfl, hx1⟩)
  go_ret2
  exact ⟨m, ham, rfl, hx1⟩
end Go.Proofs.YtcfebfblmmbeaaaDoor

/- history.Status. -/
namespace Go.Proofs.YtcfebfblmmbeaaaDoor
open Go Go.RowKit

/-- What has become of the edit n names: the code and the undoer's name. -/
def StatIs (l : List Ed) (n : Nm) (k : Int) (u : Nm) : Prop :=
  (Forked l n ∧ k = 3 ∧ u = ⟨0, 0⟩) ∨ (¬ Forked l n ∧ (∀ x, SetP l x → nmE x ≠ n) ∧ k = 0 ∧ u = ⟨0, 0⟩) ∨
  (∃ x v, SetP l x ∧ nmE x = n ∧ ByIs (SetP l) x v ∧ ((v = 0 ∧ k = 1 ∧ u = ⟨0, 0⟩) ∨ (0 < v ∧ k = 2 ∧ u = ⟨n.site, v⟩)))
theorem StatIs.uniq {l : List Ed} {n : Nm} {k k' : Int} {u u' : Nm} (h : StatIs l n k u) (h' : StatIs l n k' u') : k = k' ∧ u = u' := by
  rcases h with ⟨a, rfl, rfl⟩ | ⟨a, b, rfl, rfl⟩ | ⟨x, v, a, b, c, d⟩ <;> rcases h' with ⟨a', rfl, rfl⟩ | ⟨a', b', rfl, rfl⟩ | ⟨x', v', a', b', c', d'⟩
  · exact ⟨rfl, rfl⟩
  · exact absurd a a'
  · exact absurd (b' ▸ a) a'.2.2
  · exact absurd a' a
  · exact ⟨rfl, rfl⟩
  · exact absurd b' (b x' a')
  · exact absurd (b ▸ a') a.2.2
  · exact absurd b (b' x a)
  · obtain rfl := a.name a' (b.trans b'.symm)
    obtain rfl := c.uniq c'
    rcases d with ⟨d1, rfl, rfl⟩ | ⟨d1, rfl, rfl⟩ <;> rcases d' with ⟨d2, rfl, rfl⟩ | ⟨d2, rfl, rfl⟩
    · exact ⟨rfl, rfl⟩
    · omega
    · omega
    · exact ⟨rfl, rfl⟩
/-- The number the undone map says of a name. -/
def ByV (l : List Ed) (n : Nm) (v : Value) : Prop := ∃ G done, UN (SetP l) done G ∧ (∀ x, SetP l x → x.kind = 6 → done (nmE x)) ∧ v = .int .i64 ((G n).getD 0)
theorem results_two_row {P : Program} {fn : Func} {p q : Tmp} {ty : TypeId} (h : fn.results = #[.tmp q, .cell p ty]) (tmps : Array Value) (w : World) (g : Nat) (t : TypeId) (cs : Array Value) (fr : Nat × Nat) (d : TypeDesc)
    (hp : tmps.getD p undef = .pointer (some ⟨g, 0, none⟩)) (hg : w.heap[g]? = some (.cells cs t fr))
    (hu : P.underlying ty = some d) (hd : (match d with | .struct _ | .array _ _ => true | _ => false) = true) (hi : (P.info? ty).map (·.size) = some cs.size) :
    (results fn tmps).run P w = .ok (.tuple #[tmps.getD q undef, .agg cs]) w := by
  have hp' : tmps[p]?.getD undef = .pointer (some ⟨g, 0, none⟩) := by simpa using hp
  simp [results, h, hp', asAddr, run_loadVar_row w g t ty cs fr d hg hu hd hi]
def RetSt (l : List Ed) (n : Nm) (w : World) (en : Ending) (w' : World) : Prop :=
  ∃ k u, StatIs l n k u ∧ en = .returned (.tuple #[.int .i64 k, nmV u]) ∧ Ext w w'
set_option maxRecDepth 100000 in
set_option maxHeartbeats 4000000 in
theorem Status_any (A : Option Addr) (c : Nat) (l : List Ed) (n : Nm) (w : World) (hs : Sv w w.heap.size 17 A c (rowsE l)) (hb : l.length ≤ 1034834473200) (hR : RowsIn w) :
    Calls Tryd.prog 9 #[.slice A l.length c, nmV n] w (RetSt l n w) := by
  have hm := mixed
  have hx0 : Ext w ((w.alloc (.cells ([.int .i64 n.site, .int .i64 n.seq] : List Value).toArray 24)).alloc (.cells ([.int .i64 0, .int .i64 0] : List Value).toArray 24)) := ((Ext.refl w).alloc _).alloc _
  have HA3 := Lib.hid ((Arr.new w 24 [.int .i64 n.site, .int .i64 n.seq]).alloc (.cells ([.int .i64 0, .int .i64 0] : List Value).toArray 24))
  have HA5 := Lib.hid (Arr.new1 w (.cells ([.int .i64 n.site, .int .i64 n.seq] : List Value).toArray 24) 24 [.int .i64 0, .int .i64 0])
  have HB := Lib.hid (byName_any A c l _ (hs.ext hx0) hb (hR.ext hx0))
  have HX0 := Lib.hid hx0
  clear hs hR hx0
  unfold nmV
  go_enter Tryd.func9, Tryd.ntmps9
  go_upto_region 1 with fail
  obtain ⟨W0, hW⟩ : ∃ W, W = (w.alloc (.cells ([.int .i64 n.site, .int .i64 n.seq] : List Value).toArray 24)).alloc (.cells ([.int .i64 0, .int .i64 0] : List Value).toArray 24) := ⟨_, rfl⟩
  rw [← hW] at HA3 HA5 HB HX0
  rw [← hW]
  clear hW
  go_upto_region 2 with (go_at_call 31; refine HB.out.mono ?_; rintro e W1 ⟨bm, F, f, A1, c1, rfl, hm1, hF, hf, hs1, hx1, hbm⟩)
  have HM1 := Lib.hid hm1; have HF := Lib.hid hF; have HFK := Lib.hid hf; have HS1 := Lib.hid hs1; have HX1 := Lib.hid hx1
  have HA31 := Lib.hid (HA3.out.ext hx1); have HA51 := Lib.hid (HA5.out.ext hx1)
  have hfl : f.length ≤ 1034834473200 := by
    have h := nodup_le (l := f) (m := l.map nmE) (hf.srt.nodup ordN) (fun q hq => by obtain ⟨x, _, ⟨h1, _, h3⟩, _⟩ := (hf.mem q).1 hq; exact List.mem_map.2 ⟨x, h1, h3⟩)
    rw [List.length_map] at h
    omega
  clear hm1 hF hf hs1 hx1 hbm
  cases hfn : F n with
  | none =>
    have HFT := Lib.hid (show (if true = true then Value.tuple #[(mapE F n).getD (.agg #[.int .i64 0, .int .i64 0, .int .i64 0, .int .i64 0, .int .i64 0, .int .i64 0, .int .i64 0, .int .i64 0, .int .i64 0, .int .i64 0, .int .i64 0, .int .i64 0, .int .i64 0, .int .i64 0, .int .i64 0, .int .i64 0, .int .i64 0]), .bool (mapE F n).isSome] else (mapE F n).getD (.agg #[.int .i64 0, .int .i64 0, .int .i64 0, .int .i64 0, .int .i64 0, .int .i64 0, .int .i64 0, .int .i64 0, .int .i64 0, .int .i64 0, .int .i64 0, .int .i64 0, .int .i64 0, .int .i64 0, .int .i64 0, .int .i64 0, .int .i64 0])) = .tuple #[.agg ([.int .i64 0, .int .i64 0, .int .i64 0, .int .i64 0, .int .i64 0, .int .i64 0, .int .i64 0, .int .i64 0, .int .i64 0, .int .i64 0, .int .i64 0, .int .i64 0, .int .i64 0, .int .i64 0, .int .i64 0, .int .i64 0, .int .i64 0] : List Value).toArray, .bool false] by unfold mapE; rw [hfn]; rfl)
    have HFN := Lib.hid hfn
    clear hfn
    have hx2 : Ext W1 ((W1.alloc (.cells ([.int .i64 0, .int .i64 0, .int .i64 0, .int .i64 0, .int .i64 0, .int .i64 0, .int .i64 0, .int .i64 0, .int .i64 0, .int .i64 0, .int .i64 0, .int .i64 0, .int .i64 0, .int .i64 0, .int .i64 0, .int .i64 0, .int .i64 0] : List Value).toArray 32)).setRow W1.heap.size ([.int .i64 0, .int .i64 0, .int .i64 0, .int .i64 0, .int .i64 0, .int .i64 0, .int .i64 0, .int .i64 0, .int .i64 0, .int .i64 0, .int .i64 0, .int .i64 0, .int .i64 0, .int .i64 0, .int .i64 0, .int .i64 0, .int .i64 0] : List Value).toArray) := ((Ext.refl W1).alloc _).setRow (Nat.le_refl _) _
    go_upto_region 3 with (first
      | (refine wpList_load_blk 24 (.tmp 3) rfl rfl HA31.out rfl _ Tryd.underlying24 rfl (by kernel_rfl) ?_)
      | (refine wpList_lookup_W (.tmp 17) (.tmp 18) true rfl rfl HM1.out ktNm Tryd.underlying51 (zeroEdV _) n _ rfl rfl HFT.out ?_)
      | (refine wpList_store_blk 32 (.tmp 8) (.tmp 20) rfl rfl (Arr.new W1 32 [.int .i64 0, .int .i64 0, .int .i64 0, .int .i64 0, .int .i64 0, .int .i64 0, .int .i64 0, .int .i64 0, .int .i64 0, .int .i64 0, .int .i64 0, .int .i64 0, .int .i64 0, .int .i64 0, .int .i64 0, .int .i64 0, .int .i64 0]) [.int .i64 0, .int .i64 0, .int .i64 0, .int .i64 0, .int .i64 0, .int .i64 0, .int .i64 0, .int .i64 0, .int .i64 0, .int .i64 0, .int .i64 0, .int .i64 0, .int .i64 0, .int .i64 0, .int .i64 0, .int .i64 0, .int .i64 0] rfl rfl (by kernel_rfl) rfl rfl ?_))
    obtain ⟨W2, hW⟩ : ∃ W, W = (W1.alloc (.cells ([.int .i64 0, .int .i64 0, .int .i64 0, .int .i64 0, .int .i64 0, .int .i64 0, .int .i64 0, .int .i64 0, .int .i64 0, .int .i64 0, .int .i64 0, .int .i64 0, .int .i64 0, .int .i64 0, .int .i64 0, .int .i64 0, .int .i64 0] : List Value).toArray 32)).setRow W1.heap.size ([.int .i64 0, .int .i64 0, .int .i64 0, .int .i64 0, .int .i64 0, .int .i64 0, .int .i64 0, .int .i64 0, .int .i64 0, .int .i64 0, .int .i64 0, .int .i64 0, .int .i64 0, .int .i64 0, .int .i64 0, .int .i64 0, .int .i64 0] : List Value).toArray := ⟨_, rfl⟩
    rw [← hW] at hx2
    rw [← hW]
    have HX2 := Lib.hid hx2
    clear hW hx2
    refine wp_region_rel (w := W2) (fun i v w' => match i with
        | 0 => v = .map (some bm)
        | 1 => ∃ ub G done, v = .map (some ub) ∧ MapF nmV w' ub (mapI G) ∧ UN (SetP l) done G ∧ (∀ x, SetP l x → x.kind = 6 → done (nmE x))
        | 2 => v = .agg #[.int .i64 n.site, .int .i64 n.seq]
        | 3 => ByV l n v
        | 4 => ByV l n v
        | _ => True) hm (by kernel_rfl) (by kernel_rfl) rfl ?_ ?_ ?_
    · intro i v w1 w2 hx h
      match i, h with
      | 0, h => exact h
      | 1, ⟨ub, G, done, h1, h2, h3⟩ => exact ⟨ub, G, done, h1, h2.ext hx, h3⟩
      | 2, h => exact h
      | 3, h => exact h
      | 4, h => exact h
      | i + 5, h => exact h
    · intro i o ho b w1 hx hmiss hdep K hK
      have hxx := (HX2.out.trans hx)
      match i, ho with
      | 0, ho =>
        obtain rfl := Option.some.inj ho
        have e6 : b.tmps[6]? = some (.map (some bm)) := hmiss 6 rfl
        refine want_none rfl ?_
        exact op_move rfl (eval_of e6) (hK _ w1 (Ext.refl _) rfl)
      | 1, ho =>
        obtain rfl := Option.some.inj ho
        obtain ⟨v22, g22, e22⟩ := hdep 0 rfl
        have g22 : v22 = .map (some bm) := g22
        subst g22
        have e22 := e22 22 rfl
        refine want_none rfl ?_
        have hc : Calls Tryd.prog 32 #[.map (some bm)] w1 fun e w' => ∃ v, e = .returned v ∧ Ext w1 w' ∧ (∃ ub G done, v = .map (some ub) ∧ MapF nmV w' ub (mapI G) ∧ UN (SetP l) done G ∧ (∀ x, SetP l x → x.kind = 6 → done (nmE x))) :=
          (undone_any bm (SetP l) F w1 (goodSet l) (HM1.out.ext hxx) HF.out (fin_set l hb)).mono fun e w' ⟨ub, G, done, h1, h2, h3, h4, h5, _⟩ => ⟨_, h1, h5, ub, G, done, rfl, h2, h3, h4⟩
        exact op_call (G := fun v w' => ∃ ub G done, v = .map (some ub) ∧ MapF nmV w' ub (mapI G) ∧ UN (SetP l) done G ∧ (∀ x, SetP l x → x.kind = 6 → done (nmE x))) rfl (by simp [eval_of e22]) (fun _ _ => by kernel_rfl) hc (fun v w' h1 h2 => hK v w' h1 h2)
      | 2, ho =>
        obtain rfl := Option.some.inj ho
        have e3 : b.tmps[3]? = some (.pointer (some ⟨w.heap.size, 0, none⟩)) := hmiss 3 rfl
        refine want_none rfl ?_
        exact op_loadrow rfl (eval_of e3) (HA31.out.ext hxx) _ Tryd.underlying24 rfl (by kernel_rfl) (hK _ w1 (Ext.refl _) rfl)
      | 3, ho =>
        obtain rfl := Option.some.inj ho
        obtain ⟨v23, g23, e23⟩ := hdep 1 rfl
        obtain ⟨ub, G, done, rfl, h2, h3, h4⟩ := g23
        have e23 := e23 23 rfl
        obtain ⟨v24, g24, e24⟩ := hdep 2 rfl
        have g24 : v24 = .agg #[.int .i64 n.site, .int .i64 n.seq] := g24
        subst g24
        have e24 := e24 24 rfl
        refine want_none rfl ?_
        exact wp_lookup_F (.tmp 23) (.tmp 24) false rfl h2 ktNm Tryd.underlying55 (z := .int .i64 0) (by kernel_rfl) n (.int .i64 ((G n).getD 0)) (eval_of e23) (eval_of e24) (mapI_getD G n) (hK _ w1 (Ext.refl _) ⟨G, done, h3, h4, rfl⟩)
      | 4, ho =>
        obtain rfl := Option.some.inj ho
        obtain ⟨v25, g25, e25⟩ := hdep 3 rfl
        have e25 := e25 25 rfl
        refine want_none rfl ?_
        exact op_assign rfl (eval_of e25) (hK _ w1 (Ext.refl _) g25)
      | i + 5, ho => cases ho
    · intro V w9 hx hg
      have g0 : V 0 = .map (some bm) := hg 0 (by decide)
      have g2 : V 2 = .agg #[.int .i64 n.site, .int .i64 n.seq] := hg 2 (by decide)
      obtain ⟨ub, G0, done0, g1, _⟩ := hg 1 (by decide)
      obtain ⟨G1, done1, _, _, g3⟩ := hg 3 (by decide)
      obtain ⟨G, done, hun, hall, g4⟩ := hg 4 (by decide)
      simp only [List.length_cons, List.length_nil, fillAllN, dstOf, Act.put, List.getElem?_toArray, List.getElem?_cons_zero, List.getElem?_cons_succ, Option.bind_some, g0, g1, g2, g3, g4, List.setIfInBounds_toArray, List.set_cons_zero, List.set_cons_succ]
      have HUN := Lib.hid hun; have HALL := Lib.hid hall
      have hxx := HX2.out.trans hx
      have HX9 := Lib.hid ((HX0.out.trans HX1.out).trans hxx)
      have HA39 := Lib.hid (HA31.out.ext hxx); have HA59 := Lib.hid (HA51.out.ext hxx)
      have HCN := Lib.hid (ContainsNm_any f A1 c1 w9 (HS1.out.ext hxx) hfl n)
      clear g0 g1 g2 g3 g4 hg hun hall hx hxx
      by_cases hc : n ∈ f
      · have hcd : decide (n ∈ f) = true := decide_eq_true hc
        rw [hcd] at HCN
        have HFO := Lib.hid ((HFK.out.mem n).1 hc)
        clear hcd hc
        go_wp2_with (first
        | (refine wpList_load_blk 24 (.tmp 3) rfl rfl HA39.out rfl _ Tryd.underlying24 rfl (by kernel_rfl) ?_)
        | (go_at_call 33; refine HCN.out.mono ?_; rintro e W3 ⟨rfl, x3⟩)
        | (refine wpList_store_blk 24 (.tmp 5) (.tmp 30) rfl rfl (HA59.out.ext x3) [.int .i64 0, .int .i64 0] rfl rfl (by kernel_rfl) rfl rfl ?_))
        (try simp only [Exit.inBlock, Exit.then])
        have HF5 := (HA59.out.ext x3).setRow [.int .i64 ((⟨0, 0⟩ : Nm)).site, .int .i64 ((⟨0, 0⟩ : Nm)).seq]
        refine bodyPost_ret (v := .tuple #[.int .i64 3, nmV (⟨0, 0⟩ : Nm)]) ?_ rfl ⟨3, (⟨0, 0⟩ : Nm), .inl ⟨HFO.out, rfl, rfl⟩, rfl, (HX9.out.trans x3).setRow (g := w.heap.size + 1) (by omega) _⟩
        exact results_two_row Tryd.results9 _ _ _ _ _ _ _ rfl HF5 Tryd.underlying24 rfl (by kernel_rfl)
      · have hcd : decide (n ∈ f) = false := decide_eq_false hc
        rw [hcd] at HCN
        have HFO := Lib.hid (show StatIs l n 0 ⟨0, 0⟩ from .inr (.inl ⟨fun h => hc ((HFK.out.mem n).2 h), fun x hx he => (by have := (HF.out n x).2 ⟨hx, he⟩; rw [HFN.out] at this; cases this), rfl, rfl⟩))
        clear hcd hc
        go_wp2_with (first
        | (refine wpList_load_blk 24 (.tmp 3) rfl rfl HA39.out rfl _ Tryd.underlying24 rfl (by kernel_rfl) ?_)
        | (go_at_call 33; refine HCN.out.mono ?_; rintro e W3 ⟨rfl, x3⟩)
        | (refine wpList_store_blk 24 (.tmp 5) (.tmp 34) rfl rfl (HA59.out.ext x3) [.int .i64 0, .int .i64 0] rfl rfl (by kernel_rfl) rfl rfl ?_))
        (try simp only [Exit.inBlock, Exit.then])
        have HF5 := (HA59.out.ext x3).setRow [.int .i64 ((⟨0, 0⟩ : Nm)).site, .int .i64 ((⟨0, 0⟩ : Nm)).seq]
        refine bodyPost_ret (v := .tuple #[.int .i64 0, nmV (⟨0, 0⟩ : Nm)]) ?_ rfl ⟨0, (⟨0, 0⟩ : Nm), HFO.out, rfl, (HX9.out.trans x3).setRow (g := w.heap.size + 1) (by omega) _⟩
        exact results_two_row Tryd.results9 _ _ _ _ _ _ _ rfl HF5 Tryd.underlying24 rfl (by kernel_rfl)
  | some x =>
    have HFT := Lib.hid (show (if true = true then Value.tuple #[(mapE F n).getD (.agg #[.int .i64 0, .int .i64 0, .int .i64 0, .int .i64 0, .int .i64 0, .int .i64 0, .int .i64 0, .int .i64 0, .int .i64 0, .int .i64 0, .int .i64 0, .int .i64 0, .int .i64 0, .int .i64 0, .int .i64 0, .int .i64 0, .int .i64 0]), .bool (mapE F n).isSome] else (mapE F n).getD (.agg #[.int .i64 0, .int .i64 0, .int .i64 0, .int .i64 0, .int .i64 0, .int .i64 0, .int .i64 0, .int .i64 0, .int .i64 0, .int .i64 0, .int .i64 0, .int .i64 0, .int .i64 0, .int .i64 0, .int .i64 0, .int .i64 0, .int .i64 0])) = .tuple #[.agg (x.cells : List Value).toArray, .bool true] by unfold mapE; rw [hfn]; rfl)
    have HFN := Lib.hid hfn
    clear hfn
    have hx2 : Ext W1 ((W1.alloc (.cells ([.int .i64 0, .int .i64 0, .int .i64 0, .int .i64 0, .int .i64 0, .int .i64 0, .int .i64 0, .int .i64 0, .int .i64 0, .int .i64 0, .int .i64 0, .int .i64 0, .int .i64 0, .int .i64 0, .int .i64 0, .int .i64 0, .int .i64 0] : List Value).toArray 32)).setRow W1.heap.size (x.cells : List Value).toArray) := ((Ext.refl W1).alloc _).setRow (Nat.le_refl _) _
    go_upto_region 3 with (first
      | (refine wpList_load_blk 24 (.tmp 3) rfl rfl HA31.out rfl _ Tryd.underlying24 rfl (by kernel_rfl) ?_)
      | (refine wpList_lookup_W (.tmp 17) (.tmp 18) true rfl rfl HM1.out ktNm Tryd.underlying51 (zeroEdV _) n _ rfl rfl HFT.out ?_)
      | (refine wpList_store_blk 32 (.tmp 8) (.tmp 20) rfl rfl (Arr.new W1 32 [.int .i64 0, .int .i64 0, .int .i64 0, .int .i64 0, .int .i64 0, .int .i64 0, .int .i64 0, .int .i64 0, .int .i64 0, .int .i64 0, .int .i64 0, .int .i64 0, .int .i64 0, .int .i64 0, .int .i64 0, .int .i64 0, .int .i64 0]) x.cells rfl rfl (by kernel_rfl) rfl rfl ?_))
    obtain ⟨W2, hW⟩ : ∃ W, W = (W1.alloc (.cells ([.int .i64 0, .int .i64 0, .int .i64 0, .int .i64 0, .int .i64 0, .int .i64 0, .int .i64 0, .int .i64 0, .int .i64 0, .int .i64 0, .int .i64 0, .int .i64 0, .int .i64 0, .int .i64 0, .int .i64 0, .int .i64 0, .int .i64 0] : List Value).toArray 32)).setRow W1.heap.size (x.cells : List Value).toArray := ⟨_, rfl⟩
    rw [← hW] at hx2
    rw [← hW]
    have HX2 := Lib.hid hx2
    clear hW hx2
    refine wp_region_rel (w := W2) (fun i v w' => match i with
        | 0 => v = .map (some bm)
        | 1 => ∃ ub G done, v = .map (some ub) ∧ MapF nmV w' ub (mapI G) ∧ UN (SetP l) done G ∧ (∀ x, SetP l x → x.kind = 6 → done (nmE x))
        | 2 => v = .agg #[.int .i64 n.site, .int .i64 n.seq]
        | 3 => ByV l n v
        | 4 => ByV l n v
        | _ => True) hm (by kernel_rfl) (by kernel_rfl) rfl ?_ ?_ ?_
    · intro i v w1 w2 hx h
      match i, h with
      | 0, h => exact h
      | 1, ⟨ub, G, done, h1, h2, h3⟩ => exact ⟨ub, G, done, h1, h2.ext hx, h3⟩
      | 2, h => exact h
      | 3, h => exact h
      | 4, h => exact h
      | i + 5, h => exact h
    · intro i o ho b w1 hx hmiss hdep K hK
      have hxx := (HX2.out.trans hx)
      match i, ho with
      | 0, ho =>
        obtain rfl := Option.some.inj ho
        have e6 : b.tmps[6]? = some (.map (some bm)) := hmiss 6 rfl
        refine want_none rfl ?_
        exact op_move rfl (eval_of e6) (hK _ w1 (Ext.refl _) rfl)
      | 1, ho =>
        obtain rfl := Option.some.inj ho
        obtain ⟨v22, g22, e22⟩ := hdep 0 rfl
        have g22 : v22 = .map (some bm) := g22
        subst g22
        have e22 := e22 22 rfl
        refine want_none rfl ?_
        have hc : Calls Tryd.prog 32 #[.map (some bm)] w1 fun e w' => ∃ v, e = .returned v ∧ Ext w1 w' ∧ (∃ ub G done, v = .map (some ub) ∧ MapF nmV w' ub (mapI G) ∧ UN (SetP l) done G ∧ (∀ x, SetP l x → x.kind = 6 → done (nmE x))) :=
          (undone_any bm (SetP l) F w1 (goodSet l) (HM1.out.ext hxx) HF.out (fin_set l hb)).mono fun e w' ⟨ub, G, done, h1, h2, h3, h4, h5, _⟩ => ⟨_, h1, h5, ub, G, done, rfl, h2, h3, h4⟩
        exact op_call (G := fun v w' => ∃ ub G done, v = .map (some ub) ∧ MapF nmV w' ub (mapI G) ∧ UN (SetP l) done G ∧ (∀ x, SetP l x → x.kind = 6 → done (nmE x))) rfl (by simp [eval_of e22]) (fun _ _ => by kernel_rfl) hc (fun v w' h1 h2 => hK v w' h1 h2)
      | 2, ho =>
        obtain rfl := Option.some.inj ho
        have e3 : b.tmps[3]? = some (.pointer (some ⟨w.heap.size, 0, none⟩)) := hmiss 3 rfl
        refine want_none rfl ?_
        exact op_loadrow rfl (eval_of e3) (HA31.out.ext hxx) _ Tryd.underlying24 rfl (by kernel_rfl) (hK _ w1 (Ext.refl _) rfl)
      | 3, ho =>
        obtain rfl := Option.some.inj ho
        obtain ⟨v23, g23, e23⟩ := hdep 1 rfl
        obtain ⟨ub, G, done, rfl, h2, h3, h4⟩ := g23
        have e23 := e23 23 rfl
        obtain ⟨v24, g24, e24⟩ := hdep 2 rfl
        have g24 : v24 = .agg #[.int .i64 n.site, .int .i64 n.seq] := g24
        subst g24
        have e24 := e24 24 rfl
        refine want_none rfl ?_
        exact wp_lookup_F (.tmp 23) (.tmp 24) false rfl h2 ktNm Tryd.underlying55 (z := .int .i64 0) (by kernel_rfl) n (.int .i64 ((G n).getD 0)) (eval_of e23) (eval_of e24) (mapI_getD G n) (hK _ w1 (Ext.refl _) ⟨G, done, h3, h4, rfl⟩)
      | 4, ho =>
        obtain rfl := Option.some.inj ho
        obtain ⟨v25, g25, e25⟩ := hdep 3 rfl
        have e25 := e25 25 rfl
        refine want_none rfl ?_
        exact op_assign rfl (eval_of e25) (hK _ w1 (Ext.refl _) g25)
      | i + 5, ho => cases ho
    · intro V w9 hx hg
      have g0 : V 0 = .map (some bm) := hg 0 (by decide)
      have g2 : V 2 = .agg #[.int .i64 n.site, .int .i64 n.seq] := hg 2 (by decide)
      obtain ⟨ub, G0, done0, g1, _⟩ := hg 1 (by decide)
      obtain ⟨G1, done1, _, _, g3⟩ := hg 3 (by decide)
      obtain ⟨G, done, hun, hall, g4⟩ := hg 4 (by decide)
      simp only [List.length_cons, List.length_nil, fillAllN, dstOf, Act.put, List.getElem?_toArray, List.getElem?_cons_zero, List.getElem?_cons_succ, Option.bind_some, g0, g1, g2, g3, g4, List.setIfInBounds_toArray, List.set_cons_zero, List.set_cons_succ]
      have HUN := Lib.hid hun; have HALL := Lib.hid hall
      have hxx := HX2.out.trans hx
      have HX9 := Lib.hid ((HX0.out.trans HX1.out).trans hxx)
      have HA39 := Lib.hid (HA31.out.ext hxx); have HA59 := Lib.hid (HA51.out.ext hxx)
      have HCN := Lib.hid (ContainsNm_any f A1 c1 w9 (HS1.out.ext hxx) hfl n)
      clear g0 g1 g2 g3 g4 hg hun hall hx hxx
      have hsx := (HF.out n x).1 HFN.out
      have hc : n ∉ f := fun h => hsx.1.2.2 (hsx.2 ▸ (HFK.out.mem n).1 h)
      have hcd : decide (n ∈ f) = false := decide_eq_false hc
      rw [hcd] at HCN
      have hby := HUN.out.fin (goodSet l) HALL.out hsx.1
      rw [hsx.2] at hby
      have HBY := Lib.hid hby; have HSX := Lib.hid hsx
      have hby0 := hby.pos (fun u hu => (formed_st hu.2.1).2.2.2.1)
      clear hcd hc hsx hby
      generalize (G n).getD 0 = v at HBY hby0
      by_cases hv : 0 < v
      · go_upto_region 9 with (first
        | (refine wpList_load_blk 24 (.tmp 3) rfl rfl HA39.out rfl _ Tryd.underlying24 rfl (by kernel_rfl) ?_)
        | (go_at_call 33; refine HCN.out.mono ?_; rintro e W3 ⟨rfl, x3⟩)
        | (refine wpList_store_blk 24 (.tmp 5) (.tmp 34) rfl rfl (HA59.out.ext x3) [.int .i64 0, .int .i64 0] rfl rfl (by kernel_rfl) rfl rfl ?_))
        have hc30 := (HA39.out.ext x3).cell 0
        rw [List.getElem?_cons_zero] at hc30
        have hlt3 := (HA39.out.ext x3).lt
        have hG := near_old
        refine wp_region_near_tail 5 (by assumption) (by kernel_rfl) ?_
        simp only [List.take_succ_cons, List.take_zero, List.drop_succ_cons, List.drop_zero]
        repeat (go_big_quiet_step (fail))
        refine wpQuiet_nil ?_
        intro w1 hw1
        have hy := Ext.of_near hw1
        clear hw1
        clear hG
        go_wp2_with (refine wpList_store_blk 24 (.tmp 5) (.tmp 41) rfl rfl ((HA59.out.ext x3).ext hy) [.int .i64 n.site, .int .i64 v] rfl rfl (by kernel_rfl) rfl rfl ?_)
        (try simp only [Exit.inBlock, Exit.then])
        have HF5 := ((HA59.out.ext x3).ext hy).setRow [.int .i64 ((⟨n.site, v⟩ : Nm)).site, .int .i64 ((⟨n.site, v⟩ : Nm)).seq]
        refine bodyPost_ret (v := .tuple #[.int .i64 2, nmV (⟨n.site, v⟩ : Nm)]) ?_ rfl ⟨2, (⟨n.site, v⟩ : Nm), .inr (.inr ⟨x, v, HSX.out.1, HSX.out.2, HBY.out, .inr ⟨hv, rfl, rfl⟩⟩), rfl, ((HX9.out.trans x3).trans hy).setRow (g := w.heap.size + 1) (by omega) _⟩
        exact results_two_row Tryd.results9 _ _ _ _ _ _ _ rfl HF5 Tryd.underlying24 rfl (by kernel_rfl)
      · have hv0 : v = 0 := by omega
        subst hv0
        go_wp2_with (first
        | (refine wpList_load_blk 24 (.tmp 3) rfl rfl HA39.out rfl _ Tryd.underlying24 rfl (by kernel_rfl) ?_)
        | (go_at_call 33; refine HCN.out.mono ?_; rintro e W3 ⟨rfl, x3⟩)
        | (refine wpList_store_blk 24 (.tmp 5) (.tmp 42) rfl rfl (HA59.out.ext x3) [.int .i64 0, .int .i64 0] rfl rfl (by kernel_rfl) rfl rfl ?_))
        (try simp only [Exit.inBlock, Exit.then])
        have HF5 := (HA59.out.ext x3).setRow [.int .i64 ((⟨0, 0⟩ : Nm)).site, .int .i64 ((⟨0, 0⟩ : Nm)).seq]
        refine bodyPost_ret (v := .tuple #[.int .i64 1, nmV (⟨0, 0⟩ : Nm)]) ?_ rfl ⟨1, (⟨0, 0⟩ : Nm), .inr (.inr ⟨x, 0, HSX.out.1, HSX.out.2, HBY.out, .inl ⟨rfl, rfl, rfl⟩⟩), rfl, (HX9.out.trans x3).setRow (g := w.heap.size + 1) (by omega) _⟩
        exact results_two_row Tryd.results9 _ _ _ _ _ _ _ rfl HF5 Tryd.underlying24 rfl (by kernel_rfl)
end Go.Proofs.YtcfebfblmmbeaaaDoor

/- History, plainly: what has become of an edit, reckoned. -/
namespace Go.Proofs.YtcfebfblmmbeaaaDoor
open Go Go.RowKit

def effB (m : List Ed) (x u : Ed) : Bool := decide (u ∈ m) && (decide (Aims u x) && (decide (u.st.seq ≤ 1000) && !undB m 1000 u))
theorem effB_iff {l m : List Ed} (h : IsSet l m) (x u : Ed) : effB m x u = true ↔ Eff (SetP l) x u := by
  have hM : (fun y => y ∈ m) = SetP l := by funext y; exact propext (h.mem y)
  unfold effB Eff
  simp only [Bool.and_eq_true, decide_eq_true_eq, Bool.not_eq_true']
  constructor
  · rintro ⟨h1, h2, h3, h4⟩
    have hs := (h.mem u).1 h1
    have hf := formed_st hs.2.1
    refine ⟨⟨hs, h2, h3⟩, fun k => ?_⟩
    rw [← hM, ← undB_iff m 1000 u (by omega), h4] at k
    cases k
  · rintro ⟨⟨h1, h2, h3⟩, h4⟩
    have hf := formed_st h1.2.1
    rw [← hM, ← undB_iff m 1000 u (by omega)] at h4
    exact ⟨(h.mem u).2 h1, h2, h3, by simpa using h4⟩
def byB (m : List Ed) (x : Ed) (t : List Ed) (b : Int) : Int := t.foldl (fun b u => if effB m x u then max b u.st.seq else b) b
theorem byB_spec {l m : List Ed} (h : IsSet l m) (x : Ed) : ∀ (t t0 : List Ed) (b : Int), (∀ u, u ∈ t → u ∈ m) → ByT (SetP l) x t0 b → ByT (SetP l) x (t0 ++ t) (byB m x t b)
  | [], t0, b, _, hb => by simpa [byB] using hb
  | u :: t, t0, b, hm, hb => by
    have hu := (h.mem u).1 (hm u (List.mem_cons_self ..))
    have hf := formed_st hu.2.1
    have e : t0 ++ u :: t = (t0 ++ [u]) ++ t := by simp
    rw [e]
    unfold byB
    rw [List.foldl_cons]
    refine byB_spec h x t (t0 ++ [u]) _ (fun y hy => hm y (List.mem_cons_of_mem _ hy)) ?_
    cases he : effB m x u
    · exact hb.skip (fun k => by rw [(effB_iff h x u).2 k] at he; cases he)
    · exact hb.hit ((effB_iff h x u).1 he) hf.2.2.2.1
theorem byB_is {l m : List Ed} (h : IsSet l m) (x : Ed) : ByIs (SetP l) x (byB m x m 0) :=
  (by have := byB_spec h x m [] 0 (fun _ h => h) ByT.start; simpa using this : ByT (SetP l) x m _).all fun u hu => (h.mem u).2 hu
/-- What has become of n; the list's set is at hand. -/
def statB (l m : List Ed) (n : Nm) : Int × Nm :=
  if forkB l n then (3, ⟨0, 0⟩) else match m.find? fun x => decide (nmE x = n) with
    | none => (0, ⟨0, 0⟩)
    | some x => if byB m x m 0 = 0 then (1, ⟨0, 0⟩) else (2, ⟨n.site, byB m x m 0⟩)
theorem statB_is {l m : List Ed} (h : IsSet l m) (n : Nm) : StatIs l n (statB l m n).1 (statB l m n).2 := by
  unfold statB
  cases hf : forkB l n
  · have hnf := (forkB_no l n).1 hf
    simp only [Bool.false_eq_true, if_false]
    cases hx : m.find? fun x => decide (nmE x = n) with
    | none =>
      rw [List.find?_eq_none] at hx
      exact .inr (.inl ⟨hnf, fun x hs he => hx x ((h.mem x).2 hs) (by simpa using he), rfl, rfl⟩)
    | some x =>
      have h1 := List.find?_some hx
      have h2 := List.mem_of_find?_eq_some hx
      have hb := byB_is h x
      have hp := hb.pos (fun u hu => (formed_st hu.2.1).2.2.2.1)
      simp only
      split
      · rename_i h0
        exact .inr (.inr ⟨x, 0, (h.mem x).1 h2, by simpa using h1, h0 ▸ hb, .inl ⟨rfl, rfl, rfl⟩⟩)
      · rename_i h0
        exact .inr (.inr ⟨x, _, (h.mem x).1 h2, by simpa using h1, hb, .inr ⟨by omega, rfl, rfl⟩⟩)
  · exact .inl ⟨(forkB_iff l n).1 hf, rfl, rfl⟩
/-- The same, checked. -/
def statOk (l m : List Ed) (n : Nm) (k : Int) (u : Nm) : Bool := setOk l m && decide (statB l m n = (k, u))
theorem statOk_spec {l m : List Ed} {n : Nm} {k : Int} {u : Nm} (h : statOk l m n k u = true) : StatIs l n k u := by
  unfold statOk at h
  rw [Bool.and_eq_true, decide_eq_true_eq] at h
  have hs := statB_is (setOk_spec h.1) n
  rw [h.2] at hs
  exact hs
end Go.Proofs.YtcfebfblmmbeaaaDoor

/- Contracts of the layer of edits, on: sizes, Check. -/
namespace Go.Proofs.YtcfebfblmmbeaaaDoor
open Go Go.RowKit

def leastE (x : Ed) : Int := if x.kind = 2 ∨ x.kind = 5 ∨ x.kind = 6 ∨ x.kind = 8 then 1 else if x.kind = 7 then x.st.tick else 0
def mostE (x : Ed) : Int := if x.kind = 2 then 4096 else if x.kind = 5 then 32768 else if x.kind = 6 ∨ x.kind = 8 then x.st.seq - 1 else if x.kind = 7 then 4000 else 0
theorem ret2_int {a b c d : Int} (h : a = c) (k : b = d) : Ending.returned (.tuple #[.int .i64 a, .int .i64 b]) = .returned (.tuple #[.int .i64 c, .int .i64 d]) := by rw [h, k]
def cubeB (s : Int) : Bx := ⟨⟨0, 0, 0⟩, ⟨s, s, s⟩⟩
def lastP (b : Bx) : Pt := addP b.hi (scaleP ⟨1, 1, 1⟩ (-1))
def badE (x : Ed) (s m : Int) : Bool := (usesF x.kind 1 && (emptyB x.box || (!inP x.box.lo (cubeB s) || !inP (lastP x.box) (cubeB s)))) || ((usesF x.kind 2 && !inP x.at_ (cubeB s)) || (!decide (0 ≤ x.turn ∧ x.turn ≤ 47) || (!decide (0 ≤ x.cell ∧ x.cell ≤ m - 1) || !decide (leastE x ≤ x.size ∧ x.size ≤ mostE x))))
def checkE (x : Ed) (d m : Int) : Int := if decide (2 ≤ d ∧ d ≤ 14) then (if decide (1 ≤ m ∧ m ≤ 256) && formedE x then (if badE x (2 ^ d.toNat) m then 1 else 0) else 1) else 13
theorem shl_run (d : Int) (h : 2 ≤ d ∧ d ≤ 14) (w : World) : (Op.shift .shl .i64 1 .i64 d).run Tryd.prog w = .ok (.int .i64 (2 ^ d.toNat)) w := by
  obtain rfl | rfl | rfl | rfl | rfl | rfl | rfl | rfl | rfl | rfl | rfl | rfl | rfl : d = 2 ∨ d = 3 ∨ d = 4 ∨ d = 5 ∨ d = 6 ∨ d = 7 ∨ d = 8 ∨ d = 9 ∨ d = 10 ∨ d = 11 ∨ d = 12 ∨ d = 13 ∨ d = 14 := by omega
  all_goals kernel_rfl
theorem badE_def (x : Ed) (s m : Int) : badE x s m = ((usesF x.kind 1 && (emptyB x.box || (!inP x.box.lo (cubeB s) || !inP (lastP x.box) (cubeB s)))) || ((usesF x.kind 2 && !inP x.at_ (cubeB s)) || (!decide (0 ≤ x.turn ∧ x.turn ≤ 47) || (!decide (0 ≤ x.cell ∧ x.cell ≤ m - 1) || !decide (leastE x ≤ x.size ∧ x.size ≤ mostE x))))) := rfl

end Go.Proofs.YtcfebfblmmbeaaaDoor

/- Contracts of the reference's layer of edits: Formed, cube, Check. -/
namespace Go.Proofs.YtcfebfblmmbeaaaDoor
open Go Go.RowKit

set_option maxHeartbeats 4000000 in
theorem refFormed_out (x : Ed) (w : World) (hk : ¬ (1 ≤ x.kind ∧ x.kind ≤ 8)) :
    Calls Tryd.prog 27 #[.agg #[.int .i64 x.st.tick, .int .i64 x.st.clock, .int .i64 x.st.site, .int .i64 x.st.seq, .int .i64 x.kind, .int .i64 x.box.lo.x, .int .i64 x.box.lo.y, .int .i64 x.box.lo.z, .int .i64 x.box.hi.x, .int .i64 x.box.hi.y, .int .i64 x.box.hi.z, .int .i64 x.at_.x, .int .i64 x.at_.y, .int .i64 x.at_.z, .int .i64 x.turn, .int .i64 x.cell, .int .i64 x.size]] w fun e w' => e = .returned (.bool false) ∧ Ext w w' := by
  have HV := Lib.hid (fun w => refValid24_any x.st w)
  obtain ⟨st, kind, box, at_, turn, cell, size⟩ := x
  simp only at hk HV
  have hqb := eqBx_run box zeroBx
  have hqp := eqPt_run at_ zeroPt
  simp only [zeroBx, zeroPt] at hqb hqp
  generalize decide (box = ⟨⟨0, 0, 0⟩, ⟨0, 0, 0⟩⟩) = eb at hqb
  generalize decide (at_ = ⟨0, 0, 0⟩) = ep at hqp
  have k1 : (kind == 1) = false := beq_eq_false_iff_ne.2 (by omega)
  have k2 : (kind == 2) = false := beq_eq_false_iff_ne.2 (by omega)
  have k3 : (kind == 3) = false := beq_eq_false_iff_ne.2 (by omega)
  have k4 : (kind == 4) = false := beq_eq_false_iff_ne.2 (by omega)
  have k5 : (kind == 5) = false := beq_eq_false_iff_ne.2 (by omega)
  have k6 : (kind == 6) = false := beq_eq_false_iff_ne.2 (by omega)
  have k7 : (kind == 7) = false := beq_eq_false_iff_ne.2 (by omega)
  have k8 : (kind == 8) = false := beq_eq_false_iff_ne.2 (by omega)
  clear hk
  go_enter Tryd.func27, Tryd.ntmps27
  go_wp2_with (first | (go_at_call 42; refine (HV.out _).mono ?_; rintro e wx ⟨rfl, xx⟩; obtain ⟨xc, xf, xl, xe, xn, xm⟩ := xx.look; have xz := xx.size; (try simp only [World.size_alloc_] at xz); (try (have qh := xx.one (b := w.heap.size) (by (try simp only [World.size_alloc_]); omega); obtain ⟨qc, qf, ql, qe, qn, qm⟩ := qh)); (try (have qh := xx.one (b := w.heap.size + 1) (by (try simp only [World.size_alloc_]); omega); obtain ⟨qc, qf, ql, qe, qn, qm⟩ := qh)); (try (have qh := xx.one (b := w.heap.size + 1 + 1) (by (try simp only [World.size_alloc_]); omega); obtain ⟨qc, qf, ql, qe, qn, qm⟩ := qh)); (try (have qh := xx.one (b := w.heap.size + 1 + 1 + 1) (by (try simp only [World.size_alloc_]); omega); obtain ⟨qc, qf, ql, qe, qn, qm⟩ := qh))))
  go_ret
  exact ⟨rfl, (by repeat (first | with_reducible exact Ext.refl _ | with_reducible assumption | with_reducible refine Ext.alloc ?_ _ | with_reducible refine Ext.drew ?_ | (with_reducible refine Ext.setCell ?_ ?_ _; rotate_left; focus (first | (simp; done) | (simp; omega) | omega)) | (with_reducible refine Ext.setRow ?_ ?_ _; rotate_left; focus (first | (simp; done) | (simp; omega) | omega)) | with_reducible refine Ext.trans ?_ (by with_reducible assumption)))⟩

set_option maxHeartbeats 4000000 in
theorem refFormed_1 (x : Ed) (w : World) (hk : x.kind = 1) :
    Calls Tryd.prog 27 #[.agg #[.int .i64 x.st.tick, .int .i64 x.st.clock, .int .i64 x.st.site, .int .i64 x.st.seq, .int .i64 x.kind, .int .i64 x.box.lo.x, .int .i64 x.box.lo.y, .int .i64 x.box.lo.z, .int .i64 x.box.hi.x, .int .i64 x.box.hi.y, .int .i64 x.box.hi.z, .int .i64 x.at_.x, .int .i64 x.at_.y, .int .i64 x.at_.z, .int .i64 x.turn, .int .i64 x.cell, .int .i64 x.size]] w fun e w' => e = .returned (.bool (formedE x)) ∧ Ext w w' := by
  have HF := Lib.hid (formedE_def x)
  have HV := Lib.hid (fun w => refValid24_any x.st w)
  obtain ⟨st, kind, box, at_, turn, cell, size⟩ := x
  simp only at hk
  subst hk
  have hqb := eqBx_run box zeroBx
  have hqp := eqPt_run at_ zeroPt
  simp only [zeroBx, zeroPt] at hqb hqp HF HV
  have hu1 : usesF 1 1 = true := rfl
  have hu2 : usesF 1 2 = false := rfl
  have hu4 : usesF 1 4 = false := rfl
  have hu8 : usesF 1 8 = true := rfl
  have hu16 : usesF 1 16 = false := rfl
  generalize validS st = bv at HF HV
  simp only [hu1, hu2, hu4, hu8, hu16] at HF
  go_enter Tryd.func27, Tryd.ntmps27
  go_wp2_with (first | (go_at_call 42; refine (HV.out _).mono ?_; rintro e wx ⟨rfl, xx⟩; obtain ⟨xc, xf, xl, xe, xn, xm⟩ := xx.look; have xz := xx.size; (try simp only [World.size_alloc_] at xz); (try (have qh := xx.one (b := w.heap.size) (by (try simp only [World.size_alloc_]); omega); obtain ⟨qc, qf, ql, qe, qn, qm⟩ := qh)); (try (have qh := xx.one (b := w.heap.size + 1) (by (try simp only [World.size_alloc_]); omega); obtain ⟨qc, qf, ql, qe, qn, qm⟩ := qh)); (try (have qh := xx.one (b := w.heap.size + 1 + 1) (by (try simp only [World.size_alloc_]); omega); obtain ⟨qc, qf, ql, qe, qn, qm⟩ := qh)); (try (have qh := xx.one (b := w.heap.size + 1 + 1 + 1) (by (try simp only [World.size_alloc_]); omega); obtain ⟨qc, qf, ql, qe, qn, qm⟩ := qh))))
  all_goals
    go_ret
    rw [HF.out]
    exact ⟨ret_bool (by first | rfl | (simp [*]; done) | (rw [Bool.eq_iff_iff]; simp [*]; done)), (by repeat (first | with_reducible exact Ext.refl _ | with_reducible assumption | with_reducible refine Ext.alloc ?_ _ | with_reducible refine Ext.drew ?_ | (with_reducible refine Ext.setCell ?_ ?_ _; rotate_left; focus (first | (simp; done) | (simp; omega) | omega)) | (with_reducible refine Ext.setRow ?_ ?_ _; rotate_left; focus (first | (simp; done) | (simp; omega) | omega)) | with_reducible refine Ext.trans ?_ (by with_reducible assumption)))⟩

set_option maxHeartbeats 4000000 in
theorem refFormed_2 (x : Ed) (w : World) (hk : x.kind = 2) :
    Calls Tryd.prog 27 #[.agg #[.int .i64 x.st.tick, .int .i64 x.st.clock, .int .i64 x.st.site, .int .i64 x.st.seq, .int .i64 x.kind, .int .i64 x.box.lo.x, .int .i64 x.box.lo.y, .int .i64 x.box.lo.z, .int .i64 x.box.hi.x, .int .i64 x.box.hi.y, .int .i64 x.box.hi.z, .int .i64 x.at_.x, .int .i64 x.at_.y, .int .i64 x.at_.z, .int .i64 x.turn, .int .i64 x.cell, .int .i64 x.size]] w fun e w' => e = .returned (.bool (formedE x)) ∧ Ext w w' := by
  have HF := Lib.hid (formedE_def x)
  have HV := Lib.hid (fun w => refValid24_any x.st w)
  obtain ⟨st, kind, box, at_, turn, cell, size⟩ := x
  simp only at hk
  subst hk
  have hqb := eqBx_run box zeroBx
  have hqp := eqPt_run at_ zeroPt
  simp only [zeroBx, zeroPt] at hqb hqp HF HV
  have hu1 : usesF 2 1 = false := rfl
  have hu2 : usesF 2 2 = true := rfl
  have hu4 : usesF 2 4 = false := rfl
  have hu8 : usesF 2 8 = true := rfl
  have hu16 : usesF 2 16 = true := rfl
  generalize validS st = bv at HF HV
  simp only [hu1, hu2, hu4, hu8, hu16] at HF
  go_enter Tryd.func27, Tryd.ntmps27
  go_wp2_with (first | (go_at_call 42; refine (HV.out _).mono ?_; rintro e wx ⟨rfl, xx⟩; obtain ⟨xc, xf, xl, xe, xn, xm⟩ := xx.look; have xz := xx.size; (try simp only [World.size_alloc_] at xz); (try (have qh := xx.one (b := w.heap.size) (by (try simp only [World.size_alloc_]); omega); obtain ⟨qc, qf, ql, qe, qn, qm⟩ := qh)); (try (have qh := xx.one (b := w.heap.size + 1) (by (try simp only [World.size_alloc_]); omega); obtain ⟨qc, qf, ql, qe, qn, qm⟩ := qh)); (try (have qh := xx.one (b := w.heap.size + 1 + 1) (by (try simp only [World.size_alloc_]); omega); obtain ⟨qc, qf, ql, qe, qn, qm⟩ := qh)); (try (have qh := xx.one (b := w.heap.size + 1 + 1 + 1) (by (try simp only [World.size_alloc_]); omega); obtain ⟨qc, qf, ql, qe, qn, qm⟩ := qh))))
  all_goals
    go_ret
    rw [HF.out]
    exact ⟨ret_bool (by first | rfl | (simp [*]; done) | (rw [Bool.eq_iff_iff]; simp [*]; done)), (by repeat (first | with_reducible exact Ext.refl _ | with_reducible assumption | with_reducible refine Ext.alloc ?_ _ | with_reducible refine Ext.drew ?_ | (with_reducible refine Ext.setCell ?_ ?_ _; rotate_left; focus (first | (simp; done) | (simp; omega) | omega)) | (with_reducible refine Ext.setRow ?_ ?_ _; rotate_left; focus (first | (simp; done) | (simp; omega) | omega)) | with_reducible refine Ext.trans ?_ (by with_reducible assumption)))⟩

set_option maxHeartbeats 4000000 in
theorem refFormed_3 (x : Ed) (w : World) (hk : x.kind = 3) :
    Calls Tryd.prog 27 #[.agg #[.int .i64 x.st.tick, .int .i64 x.st.clock, .int .i64 x.st.site, .int .i64 x.st.seq, .int .i64 x.kind, .int .i64 x.box.lo.x, .int .i64 x.box.lo.y, .int .i64 x.box.lo.z, .int .i64 x.box.hi.x, .int .i64 x.box.hi.y, .int .i64 x.box.hi.z, .int .i64 x.at_.x, .int .i64 x.at_.y, .int .i64 x.at_.z, .int .i64 x.turn, .int .i64 x.cell, .int .i64 x.size]] w fun e w' => e = .returned (.bool (formedE x)) ∧ Ext w w' := by
  have HF := Lib.hid (formedE_def x)
  have HV := Lib.hid (fun w => refValid24_any x.st w)
  obtain ⟨st, kind, box, at_, turn, cell, size⟩ := x
  simp only at hk
  subst hk
  have hqb := eqBx_run box zeroBx
  have hqp := eqPt_run at_ zeroPt
  simp only [zeroBx, zeroPt] at hqb hqp HF HV
  have hu1 : usesF 3 1 = true := rfl
  have hu2 : usesF 3 2 = false := rfl
  have hu4 : usesF 3 4 = true := rfl
  have hu8 : usesF 3 8 = true := rfl
  have hu16 : usesF 3 16 = false := rfl
  generalize validS st = bv at HF HV
  simp only [hu1, hu2, hu4, hu8, hu16] at HF
  go_enter Tryd.func27, Tryd.ntmps27
  go_wp2_with (first | (go_at_call 42; refine (HV.out _).mono ?_; rintro e wx ⟨rfl, xx⟩; obtain ⟨xc, xf, xl, xe, xn, xm⟩ := xx.look; have xz := xx.size; (try simp only [World.size_alloc_] at xz); (try (have qh := xx.one (b := w.heap.size) (by (try simp only [World.size_alloc_]); omega); obtain ⟨qc, qf, ql, qe, qn, qm⟩ := qh)); (try (have qh := xx.one (b := w.heap.size + 1) (by (try simp only [World.size_alloc_]); omega); obtain ⟨qc, qf, ql, qe, qn, qm⟩ := qh)); (try (have qh := xx.one (b := w.heap.size + 1 + 1) (by (try simp only [World.size_alloc_]); omega); obtain ⟨qc, qf, ql, qe, qn, qm⟩ := qh)); (try (have qh := xx.one (b := w.heap.size + 1 + 1 + 1) (by (try simp only [World.size_alloc_]); omega); obtain ⟨qc, qf, ql, qe, qn, qm⟩ := qh))))
  all_goals
    go_ret
    rw [HF.out]
    exact ⟨ret_bool (by first | rfl | (simp [*]; done) | (rw [Bool.eq_iff_iff]; simp [*]; done)), (by repeat (first | with_reducible exact Ext.refl _ | with_reducible assumption | with_reducible refine Ext.alloc ?_ _ | with_reducible refine Ext.drew ?_ | (with_reducible refine Ext.setCell ?_ ?_ _; rotate_left; focus (first | (simp; done) | (simp; omega) | omega)) | (with_reducible refine Ext.setRow ?_ ?_ _; rotate_left; focus (first | (simp; done) | (simp; omega) | omega)) | with_reducible refine Ext.trans ?_ (by with_reducible assumption)))⟩

set_option maxHeartbeats 4000000 in
theorem refFormed_4 (x : Ed) (w : World) (hk : x.kind = 4) :
    Calls Tryd.prog 27 #[.agg #[.int .i64 x.st.tick, .int .i64 x.st.clock, .int .i64 x.st.site, .int .i64 x.st.seq, .int .i64 x.kind, .int .i64 x.box.lo.x, .int .i64 x.box.lo.y, .int .i64 x.box.lo.z, .int .i64 x.box.hi.x, .int .i64 x.box.hi.y, .int .i64 x.box.hi.z, .int .i64 x.at_.x, .int .i64 x.at_.y, .int .i64 x.at_.z, .int .i64 x.turn, .int .i64 x.cell, .int .i64 x.size]] w fun e w' => e = .returned (.bool (formedE x)) ∧ Ext w w' := by
  have HF := Lib.hid (formedE_def x)
  have HV := Lib.hid (fun w => refValid24_any x.st w)
  obtain ⟨st, kind, box, at_, turn, cell, size⟩ := x
  simp only at hk
  subst hk
  have hqb := eqBx_run box zeroBx
  have hqp := eqPt_run at_ zeroPt
  simp only [zeroBx, zeroPt] at hqb hqp HF HV
  have hu1 : usesF 4 1 = true := rfl
  have hu2 : usesF 4 2 = true := rfl
  have hu4 : usesF 4 4 = true := rfl
  have hu8 : usesF 4 8 = false := rfl
  have hu16 : usesF 4 16 = false := rfl
  generalize validS st = bv at HF HV
  simp only [hu1, hu2, hu4, hu8, hu16] at HF
  go_enter Tryd.func27, Tryd.ntmps27
  go_wp2_with (first | (go_at_call 42; refine (HV.out _).mono ?_; rintro e wx ⟨rfl, xx⟩; obtain ⟨xc, xf, xl, xe, xn, xm⟩ := xx.look; have xz := xx.size; (try simp only [World.size_alloc_] at xz); (try (have qh := xx.one (b := w.heap.size) (by (try simp only [World.size_alloc_]); omega); obtain ⟨qc, qf, ql, qe, qn, qm⟩ := qh)); (try (have qh := xx.one (b := w.heap.size + 1) (by (try simp only [World.size_alloc_]); omega); obtain ⟨qc, qf, ql, qe, qn, qm⟩ := qh)); (try (have qh := xx.one (b := w.heap.size + 1 + 1) (by (try simp only [World.size_alloc_]); omega); obtain ⟨qc, qf, ql, qe, qn, qm⟩ := qh)); (try (have qh := xx.one (b := w.heap.size + 1 + 1 + 1) (by (try simp only [World.size_alloc_]); omega); obtain ⟨qc, qf, ql, qe, qn, qm⟩ := qh))))
  all_goals
    go_ret
    rw [HF.out]
    exact ⟨ret_bool (by first | rfl | (simp [*]; done) | (rw [Bool.eq_iff_iff]; simp [*]; done)), (by repeat (first | with_reducible exact Ext.refl _ | with_reducible assumption | with_reducible refine Ext.alloc ?_ _ | with_reducible refine Ext.drew ?_ | (with_reducible refine Ext.setCell ?_ ?_ _; rotate_left; focus (first | (simp; done) | (simp; omega) | omega)) | (with_reducible refine Ext.setRow ?_ ?_ _; rotate_left; focus (first | (simp; done) | (simp; omega) | omega)) | with_reducible refine Ext.trans ?_ (by with_reducible assumption)))⟩

set_option maxHeartbeats 4000000 in
theorem refFormed_5 (x : Ed) (w : World) (hk : x.kind = 5) :
    Calls Tryd.prog 27 #[.agg #[.int .i64 x.st.tick, .int .i64 x.st.clock, .int .i64 x.st.site, .int .i64 x.st.seq, .int .i64 x.kind, .int .i64 x.box.lo.x, .int .i64 x.box.lo.y, .int .i64 x.box.lo.z, .int .i64 x.box.hi.x, .int .i64 x.box.hi.y, .int .i64 x.box.hi.z, .int .i64 x.at_.x, .int .i64 x.at_.y, .int .i64 x.at_.z, .int .i64 x.turn, .int .i64 x.cell, .int .i64 x.size]] w fun e w' => e = .returned (.bool (formedE x)) ∧ Ext w w' := by
  have HF := Lib.hid (formedE_def x)
  have HV := Lib.hid (fun w => refValid24_any x.st w)
  obtain ⟨st, kind, box, at_, turn, cell, size⟩ := x
  simp only at hk
  subst hk
  have hqb := eqBx_run box zeroBx
  have hqp := eqPt_run at_ zeroPt
  simp only [zeroBx, zeroPt] at hqb hqp HF HV
  have hu1 : usesF 5 1 = false := rfl
  have hu2 : usesF 5 2 = true := rfl
  have hu4 : usesF 5 4 = false := rfl
  have hu8 : usesF 5 8 = true := rfl
  have hu16 : usesF 5 16 = true := rfl
  generalize validS st = bv at HF HV
  simp only [hu1, hu2, hu4, hu8, hu16] at HF
  go_enter Tryd.func27, Tryd.ntmps27
  go_wp2_with (first | (go_at_call 42; refine (HV.out _).mono ?_; rintro e wx ⟨rfl, xx⟩; obtain ⟨xc, xf, xl, xe, xn, xm⟩ := xx.look; have xz := xx.size; (try simp only [World.size_alloc_] at xz); (try (have qh := xx.one (b := w.heap.size) (by (try simp only [World.size_alloc_]); omega); obtain ⟨qc, qf, ql, qe, qn, qm⟩ := qh)); (try (have qh := xx.one (b := w.heap.size + 1) (by (try simp only [World.size_alloc_]); omega); obtain ⟨qc, qf, ql, qe, qn, qm⟩ := qh)); (try (have qh := xx.one (b := w.heap.size + 1 + 1) (by (try simp only [World.size_alloc_]); omega); obtain ⟨qc, qf, ql, qe, qn, qm⟩ := qh)); (try (have qh := xx.one (b := w.heap.size + 1 + 1 + 1) (by (try simp only [World.size_alloc_]); omega); obtain ⟨qc, qf, ql, qe, qn, qm⟩ := qh))))
  all_goals
    go_ret
    rw [HF.out]
    exact ⟨ret_bool (by first | rfl | (simp [*]; done) | (rw [Bool.eq_iff_iff]; simp [*]; done)), (by repeat (first | with_reducible exact Ext.refl _ | with_reducible assumption | with_reducible refine Ext.alloc ?_ _ | with_reducible refine Ext.drew ?_ | (with_reducible refine Ext.setCell ?_ ?_ _; rotate_left; focus (first | (simp; done) | (simp; omega) | omega)) | (with_reducible refine Ext.setRow ?_ ?_ _; rotate_left; focus (first | (simp; done) | (simp; omega) | omega)) | with_reducible refine Ext.trans ?_ (by with_reducible assumption)))⟩

set_option maxHeartbeats 4000000 in
theorem refFormed_6 (x : Ed) (w : World) (hk : x.kind = 6) :
    Calls Tryd.prog 27 #[.agg #[.int .i64 x.st.tick, .int .i64 x.st.clock, .int .i64 x.st.site, .int .i64 x.st.seq, .int .i64 x.kind, .int .i64 x.box.lo.x, .int .i64 x.box.lo.y, .int .i64 x.box.lo.z, .int .i64 x.box.hi.x, .int .i64 x.box.hi.y, .int .i64 x.box.hi.z, .int .i64 x.at_.x, .int .i64 x.at_.y, .int .i64 x.at_.z, .int .i64 x.turn, .int .i64 x.cell, .int .i64 x.size]] w fun e w' => e = .returned (.bool (formedE x)) ∧ Ext w w' := by
  have HF := Lib.hid (formedE_def x)
  have HV := Lib.hid (fun w => refValid24_any x.st w)
  obtain ⟨st, kind, box, at_, turn, cell, size⟩ := x
  simp only at hk
  subst hk
  have hqb := eqBx_run box zeroBx
  have hqp := eqPt_run at_ zeroPt
  simp only [zeroBx, zeroPt] at hqb hqp HF HV
  have hu1 : usesF 6 1 = false := rfl
  have hu2 : usesF 6 2 = false := rfl
  have hu4 : usesF 6 4 = false := rfl
  have hu8 : usesF 6 8 = false := rfl
  have hu16 : usesF 6 16 = true := rfl
  generalize validS st = bv at HF HV
  simp only [hu1, hu2, hu4, hu8, hu16] at HF
  go_enter Tryd.func27, Tryd.ntmps27
  go_wp2_with (first | (go_at_call 42; refine (HV.out _).mono ?_; rintro e wx ⟨rfl, xx⟩; obtain ⟨xc, xf, xl, xe, xn, xm⟩ := xx.look; have xz := xx.size; (try simp only [World.size_alloc_] at xz); (try (have qh := xx.one (b := w.heap.size) (by (try simp only [World.size_alloc_]); omega); obtain ⟨qc, qf, ql, qe, qn, qm⟩ := qh)); (try (have qh := xx.one (b := w.heap.size + 1) (by (try simp only [World.size_alloc_]); omega); obtain ⟨qc, qf, ql, qe, qn, qm⟩ := qh)); (try (have qh := xx.one (b := w.heap.size + 1 + 1) (by (try simp only [World.size_alloc_]); omega); obtain ⟨qc, qf, ql, qe, qn, qm⟩ := qh)); (try (have qh := xx.one (b := w.heap.size + 1 + 1 + 1) (by (try simp only [World.size_alloc_]); omega); obtain ⟨qc, qf, ql, qe, qn, qm⟩ := qh))))
  all_goals
    go_ret
    rw [HF.out]
    exact ⟨ret_bool (by first | rfl | (simp [*]; done) | (rw [Bool.eq_iff_iff]; simp [*]; done)), (by repeat (first | with_reducible exact Ext.refl _ | with_reducible assumption | with_reducible refine Ext.alloc ?_ _ | with_reducible refine Ext.drew ?_ | (with_reducible refine Ext.setCell ?_ ?_ _; rotate_left; focus (first | (simp; done) | (simp; omega) | omega)) | (with_reducible refine Ext.setRow ?_ ?_ _; rotate_left; focus (first | (simp; done) | (simp; omega) | omega)) | with_reducible refine Ext.trans ?_ (by with_reducible assumption)))⟩

set_option maxHeartbeats 4000000 in
theorem refFormed_7 (x : Ed) (w : World) (hk : x.kind = 7) :
    Calls Tryd.prog 27 #[.agg #[.int .i64 x.st.tick, .int .i64 x.st.clock, .int .i64 x.st.site, .int .i64 x.st.seq, .int .i64 x.kind, .int .i64 x.box.lo.x, .int .i64 x.box.lo.y, .int .i64 x.box.lo.z, .int .i64 x.box.hi.x, .int .i64 x.box.hi.y, .int .i64 x.box.hi.z, .int .i64 x.at_.x, .int .i64 x.at_.y, .int .i64 x.at_.z, .int .i64 x.turn, .int .i64 x.cell, .int .i64 x.size]] w fun e w' => e = .returned (.bool (formedE x)) ∧ Ext w w' := by
  have HF := Lib.hid (formedE_def x)
  have HV := Lib.hid (fun w => refValid24_any x.st w)
  obtain ⟨st, kind, box, at_, turn, cell, size⟩ := x
  simp only at hk
  subst hk
  have hqb := eqBx_run box zeroBx
  have hqp := eqPt_run at_ zeroPt
  simp only [zeroBx, zeroPt] at hqb hqp HF HV
  have hu1 : usesF 7 1 = true := rfl
  have hu2 : usesF 7 2 = false := rfl
  have hu4 : usesF 7 4 = false := rfl
  have hu8 : usesF 7 8 = false := rfl
  have hu16 : usesF 7 16 = true := rfl
  generalize validS st = bv at HF HV
  simp only [hu1, hu2, hu4, hu8, hu16] at HF
  go_enter Tryd.func27, Tryd.ntmps27
  go_wp2_with (first | (go_at_call 42; refine (HV.out _).mono ?_; rintro e wx ⟨rfl, xx⟩; obtain ⟨xc, xf, xl, xe, xn, xm⟩ := xx.look; have xz := xx.size; (try simp only [World.size_alloc_] at xz); (try (have qh := xx.one (b := w.heap.size) (by (try simp only [World.size_alloc_]); omega); obtain ⟨qc, qf, ql, qe, qn, qm⟩ := qh)); (try (have qh := xx.one (b := w.heap.size + 1) (by (try simp only [World.size_alloc_]); omega); obtain ⟨qc, qf, ql, qe, qn, qm⟩ := qh)); (try (have qh := xx.one (b := w.heap.size + 1 + 1) (by (try simp only [World.size_alloc_]); omega); obtain ⟨qc, qf, ql, qe, qn, qm⟩ := qh)); (try (have qh := xx.one (b := w.heap.size + 1 + 1 + 1) (by (try simp only [World.size_alloc_]); omega); obtain ⟨qc, qf, ql, qe, qn, qm⟩ := qh))))
  all_goals
    go_ret
    rw [HF.out]
    exact ⟨ret_bool (by first | rfl | (simp [*]; done) | (rw [Bool.eq_iff_iff]; simp [*]; done)), (by repeat (first | with_reducible exact Ext.refl _ | with_reducible assumption | with_reducible refine Ext.alloc ?_ _ | with_reducible refine Ext.drew ?_ | (with_reducible refine Ext.setCell ?_ ?_ _; rotate_left; focus (first | (simp; done) | (simp; omega) | omega)) | (with_reducible refine Ext.setRow ?_ ?_ _; rotate_left; focus (first | (simp; done) | (simp; omega) | omega)) | with_reducible refine Ext.trans ?_ (by with_reducible assumption)))⟩

set_option maxHeartbeats 4000000 in
theorem refFormed_8 (x : Ed) (w : World) (hk : x.kind = 8) :
    Calls Tryd.prog 27 #[.agg #[.int .i64 x.st.tick, .int .i64 x.st.clock, .int .i64 x.st.site, .int .i64 x.st.seq, .int .i64 x.kind, .int .i64 x.box.lo.x, .int .i64 x.box.lo.y, .int .i64 x.box.lo.z, .int .i64 x.box.hi.x, .int .i64 x.box.hi.y, .int .i64 x.box.hi.z, .int .i64 x.at_.x, .int .i64 x.at_.y, .int .i64 x.at_.z, .int .i64 x.turn, .int .i64 x.cell, .int .i64 x.size]] w fun e w' => e = .returned (.bool (formedE x)) ∧ Ext w w' := by
  have HF := Lib.hid (formedE_def x)
  have HV := Lib.hid (fun w => refValid24_any x.st w)
  obtain ⟨st, kind, box, at_, turn, cell, size⟩ := x
  simp only at hk
  subst hk
  have hqb := eqBx_run box zeroBx
  have hqp := eqPt_run at_ zeroPt
  simp only [zeroBx, zeroPt] at hqb hqp HF HV
  have hu1 : usesF 8 1 = false := rfl
  have hu2 : usesF 8 2 = false := rfl
  have hu4 : usesF 8 4 = false := rfl
  have hu8 : usesF 8 8 = false := rfl
  have hu16 : usesF 8 16 = true := rfl
  generalize validS st = bv at HF HV
  simp only [hu1, hu2, hu4, hu8, hu16] at HF
  go_enter Tryd.func27, Tryd.ntmps27
  go_wp2_with (first | (go_at_call 42; refine (HV.out _).mono ?_; rintro e wx ⟨rfl, xx⟩; obtain ⟨xc, xf, xl, xe, xn, xm⟩ := xx.look; have xz := xx.size; (try simp only [World.size_alloc_] at xz); (try (have qh := xx.one (b := w.heap.size) (by (try simp only [World.size_alloc_]); omega); obtain ⟨qc, qf, ql, qe, qn, qm⟩ := qh)); (try (have qh := xx.one (b := w.heap.size + 1) (by (try simp only [World.size_alloc_]); omega); obtain ⟨qc, qf, ql, qe, qn, qm⟩ := qh)); (try (have qh := xx.one (b := w.heap.size + 1 + 1) (by (try simp only [World.size_alloc_]); omega); obtain ⟨qc, qf, ql, qe, qn, qm⟩ := qh)); (try (have qh := xx.one (b := w.heap.size + 1 + 1 + 1) (by (try simp only [World.size_alloc_]); omega); obtain ⟨qc, qf, ql, qe, qn, qm⟩ := qh))))
  all_goals
    go_ret
    rw [HF.out]
    exact ⟨ret_bool (by first | rfl | (simp [*]; done) | (rw [Bool.eq_iff_iff]; simp [*]; done)), (by repeat (first | with_reducible exact Ext.refl _ | with_reducible assumption | with_reducible refine Ext.alloc ?_ _ | with_reducible refine Ext.drew ?_ | (with_reducible refine Ext.setCell ?_ ?_ _; rotate_left; focus (first | (simp; done) | (simp; omega) | omega)) | (with_reducible refine Ext.setRow ?_ ?_ _; rotate_left; focus (first | (simp; done) | (simp; omega) | omega)) | with_reducible refine Ext.trans ?_ (by with_reducible assumption)))⟩

theorem refFormed_any (x : Ed) (w : World) :
    Calls Tryd.prog 27 #[.agg #[.int .i64 x.st.tick, .int .i64 x.st.clock, .int .i64 x.st.site, .int .i64 x.st.seq, .int .i64 x.kind, .int .i64 x.box.lo.x, .int .i64 x.box.lo.y, .int .i64 x.box.lo.z, .int .i64 x.box.hi.x, .int .i64 x.box.hi.y, .int .i64 x.box.hi.z, .int .i64 x.at_.x, .int .i64 x.at_.y, .int .i64 x.at_.z, .int .i64 x.turn, .int .i64 x.cell, .int .i64 x.size]] w fun e w' => e = .returned (.bool (formedE x)) ∧ Ext w w' := by
  by_cases hk : 1 ≤ x.kind ∧ x.kind ≤ 8
  · obtain hk | hk | hk | hk | hk | hk | hk | hk : x.kind = 1 ∨ x.kind = 2 ∨ x.kind = 3 ∨ x.kind = 4 ∨ x.kind = 5 ∨ x.kind = 6 ∨ x.kind = 7 ∨ x.kind = 8 := by omega
    · exact refFormed_1 x w hk
    · exact refFormed_2 x w hk
    · exact refFormed_3 x w hk
    · exact refFormed_4 x w hk
    · exact refFormed_5 x w hk
    · exact refFormed_6 x w hk
    · exact refFormed_7 x w hk
    · exact refFormed_8 x w hk
  · have hf : formedE x = false := by
      rw [formedE_def, decide_eq_false hk]; simp
    rw [hf]
    exact refFormed_out x w hk
end Go.Proofs.YtcfebfblmmbeaaaDoor

/- The reference's Name and formed. -/
namespace Go.Proofs.YtcfebfblmmbeaaaDoor
open Go Go.RowKit

set_option maxHeartbeats 1000000 in
theorem refName_any (x : Ed) (w : World) :
    Calls Tryd.prog 25 #[.agg #[.int .i64 x.st.tick, .int .i64 x.st.clock, .int .i64 x.st.site, .int .i64 x.st.seq, .int .i64 x.kind, .int .i64 x.box.lo.x, .int .i64 x.box.lo.y, .int .i64 x.box.lo.z, .int .i64 x.box.hi.x, .int .i64 x.box.hi.y, .int .i64 x.box.hi.z, .int .i64 x.at_.x, .int .i64 x.at_.y, .int .i64 x.at_.z, .int .i64 x.turn, .int .i64 x.cell, .int .i64 x.size]] w fun e w' => e = .returned (nmV (nmE x)) ∧ Ext w w' := by
  have B0 := (Arr.new w 32 [.int .i64 x.st.tick, .int .i64 x.st.clock, .int .i64 x.st.site, .int .i64 x.st.seq, .int .i64 x.kind, .int .i64 x.box.lo.x, .int .i64 x.box.lo.y, .int .i64 x.box.lo.z, .int .i64 x.box.hi.x, .int .i64 x.box.hi.y, .int .i64 x.box.hi.z, .int .i64 x.at_.x, .int .i64 x.at_.y, .int .i64 x.at_.z, .int .i64 x.turn, .int .i64 x.cell, .int .i64 x.size]).alloc (.cells #[.int .i64 0, .int .i64 0] 24)
  have B1 := Arr.new (w.alloc (.cells #[.int .i64 x.st.tick, .int .i64 x.st.clock, .int .i64 x.st.site, .int .i64 x.st.seq, .int .i64 x.kind, .int .i64 x.box.lo.x, .int .i64 x.box.lo.y, .int .i64 x.box.lo.z, .int .i64 x.box.hi.x, .int .i64 x.box.hi.y, .int .i64 x.box.hi.z, .int .i64 x.at_.x, .int .i64 x.at_.y, .int .i64 x.at_.z, .int .i64 x.turn, .int .i64 x.cell, .int .i64 x.size] 32)) 24 [.int .i64 0, .int .i64 0]
  rw [World.size_alloc_] at B1
  have hx0 : Ext w ((w.alloc (.cells #[.int .i64 x.st.tick, .int .i64 x.st.clock, .int .i64 x.st.site, .int .i64 x.st.seq, .int .i64 x.kind, .int .i64 x.box.lo.x, .int .i64 x.box.lo.y, .int .i64 x.box.lo.z, .int .i64 x.box.hi.x, .int .i64 x.box.hi.y, .int .i64 x.box.hi.z, .int .i64 x.at_.x, .int .i64 x.at_.y, .int .i64 x.at_.z, .int .i64 x.turn, .int .i64 x.cell, .int .i64 x.size] 32)).alloc (.cells #[.int .i64 0, .int .i64 0] 24)) := ((Ext.refl w).alloc _).alloc _
  have HB1 := Lib.hid B1; have HX0 := Lib.hid hx0
  have d2 := B0.cell 2
  have d3 := B0.cell 3
  have db := B0.lt
  simp only [List.getElem?_cons_zero, List.getElem?_cons_succ] at d2 d3
  clear B0 B1 hx0
  go_enter Tryd.func25, Tryd.ntmps25
  go_upto_region 1 with fail
  obtain ⟨W0, hW⟩ : ∃ W, W = (w.alloc (.cells #[.int .i64 x.st.tick, .int .i64 x.st.clock, .int .i64 x.st.site, .int .i64 x.st.seq, .int .i64 x.kind, .int .i64 x.box.lo.x, .int .i64 x.box.lo.y, .int .i64 x.box.lo.z, .int .i64 x.box.hi.x, .int .i64 x.box.hi.y, .int .i64 x.box.hi.z, .int .i64 x.at_.x, .int .i64 x.at_.y, .int .i64 x.at_.z, .int .i64 x.turn, .int .i64 x.cell, .int .i64 x.size] 32)).alloc (.cells #[.int .i64 0, .int .i64 0] 24) := ⟨_, rfl⟩
  rw [← hW] at HB1 HX0 d2 d3 db
  rw [← hW]
  clear hW
  go_wp2_with (refine wpList_store_blk 24 (.tmp 2) (.tmp 9) rfl rfl HB1.out [.int .i64 x.st.site, .int .i64 x.st.seq] rfl rfl (by kernel_rfl) rfl rfl ?_)
  have hfin := HB1.out.setRow [.int .i64 x.st.site, .int .i64 x.st.seq]
  have hxf := HX0.out.setRow (g := w.heap.size + 1) (by omega) ([.int .i64 x.st.site, .int .i64 x.st.seq] : List Value).toArray
  refine bodyPost_ret (v := nmV (nmE x)) ?_ rfl ⟨rfl, hxf⟩
  exact results_cell_row Tryd.results25 _ _ _ _ _ _ _ rfl hfin Tryd.underlying24 rfl (by kernel_rfl)
theorem filter_snoc (l : List Ed) (k : Nat) (x : Ed) (hx : l[k]? = some x) : (l.take (k + 1)).filter formedE = (l.take k).filter formedE ++ (if formedE x then [x] else []) := by
  rw [take_snocR hx, List.filter_append]
  cases h : formedE x <;> simp [h]
theorem filter_le (l : List Ed) : (l.filter formedE).length ≤ l.length := List.length_filter_le _ _
set_option maxRecDepth 100000 in
set_option maxHeartbeats 4000000 in
theorem refformed_any (A : Option Addr) (c : Nat) (l : List Ed) (w : World) (hs : Sv w w.heap.size 17 A c (rowsE l)) (hb : l.length ≤ 1034834473200) :
    Calls Tryd.prog 40 #[.slice A l.length c] w (RetE (l.filter formedE) w) := by
  obtain ⟨i0, hi, hz0, hz1, hz2⟩ := info_parts infoEd
  have HI := Lib.hid hi; have HZ := Lib.hid hz0; have HZ1 := Lib.hid hz1; have HZ2 := Lib.hid hz2; clear hi hz0 hz1 hz2
  have HS := Lib.hid hs
  have hln : l.length ≤ 9223372036854775807 := by omega
  clear hs
  go_enter Tryd.func40, Tryd.ntmps40
  go_wp2_with fail
  go_loopw [3, 4] (fun ov i wr => ∃ k : Nat, i = .int .i64 k ∧ k ≤ l.length ∧ wr.ownsRow w.heap.size 32 17 ov ((l.take k).filter formedE).length (rowsE ((l.take k).filter formedE)).flatten ∧ Ext w wr) (fun _ i _ => l.length - (intOf i).toNat)
  case atStart => exact ⟨0, rfl, Nat.zero_le _, World.ownsRow_nil _ _ _ _, Ext.refl _⟩
  case round =>
    obtain ⟨k, rfl, hk, ho, hx⟩ := hrel
    have HO := Lib.hid ho; have HX := Lib.hid hx
    obtain ⟨A1, c1, rfl, _⟩ := own_form ho
    by_cases hlt : k < l.length
    · obtain ⟨x, hxk⟩ : ∃ x, l[k]? = some x := ⟨_, List.getElem?_eq_getElem hlt⟩
      obtain ⟨b, off, rfl, hbl, hra⟩ := ed_row HS.out hxk
      have HRA := Lib.hid (rangeAt_ext hra hbl HX.out)
      have HT := Lib.hid (filter_snoc l k x hxk)
      have hfl := Nat.le_trans (filter_le (l.take k)) (List.length_take_le k l)
      generalize hfo : (l.take k).filter formedE = fo at HO HT hfl
      have HRAX := Lib.hid (fun wy (hy : Ext wr wy) => rangeAt_ext HRA.out (Nat.lt_of_lt_of_le hbl HX.out.size) hy)
      clear hxk hra ho hx hfo
      have HF := Lib.hid (refFormed_any x wr)
      cases hf : formedE x
      · rw [hf] at HF
        have HFX := Lib.hid hf
        clear hf
        go_wp2_with (first
          | (with_reducible refine wpList_load_mid rfl 32 (.tmp 14) rfl b (off + k * 17) rfl x.cells _ HRA.out Tryd.underlying32 rfl (by kernel_rfl) ?_)
          | (go_at_call 27; refine HF.out.mono ?_; rintro e W2 ⟨rfl, x2⟩))
        go_roundw
        case rel => exact ⟨k + 1, by go_num, by omega, by rw [HT.out, HFX.out]; simpa using own_ext HO.out x2, HX.out.trans x2⟩
        case measure => simp [intOf]; omega
      · rw [hf] at HF
        have HFX := Lib.hid hf
        clear hf
        go_upto_region 6 with (first
          | (with_reducible refine wpList_load_mid rfl 32 (.tmp 14) rfl b (off + k * 17) rfl x.cells _ HRA.out Tryd.underlying32 rfl (by kernel_rfl) ?_)
          | (go_at_call 27; refine HF.out.mono ?_; rintro e W2 ⟨rfl, x2⟩))
        have HRA2 := Lib.hid (HRAX.out W2 x2)
        have hx6 : Ext W2 (W2.alloc (.cells x.cells.toArray 32)) := (Ext.refl _).alloc _
        have HSN := Lib.hid (show Sv (W2.alloc (.cells x.cells.toArray 32)) (W2.alloc (.cells x.cells.toArray 32)).heap.size 17 (some ⟨W2.heap.size, 0, none⟩) 1 (rowsE [x]) from
          ⟨by simp [rowsE], by decide, rowsE_rwk _, fun _ => ⟨W2.heap.size, 0, rfl, by simp, fun j u hu => by
            rw [Nat.zero_add, cell_of_row _ _ _ _ _ _ (heap_alloc_new W2 _)]
            simpa [rowsE] using hu⟩⟩)
        have HO3 := Lib.hid (own_ext HO.out (x2.trans hx6))
        have HX3 := Lib.hid (HX.out.trans (x2.trans hx6))
        clear hx6
        go_wp2_with (first
          | (with_reducible refine wpList_load_mid rfl 32 (.tmp 21) rfl b (off + k * 17) rfl x.cells _ HRA2.out Tryd.underlying32 rfl (by kernel_rfl) ?_)
          | (refine wpList_buildRow rfl 22 32 22 rfl 17 (by decide) (by decide) x.cells rfl rfl Tryd.underlying22 (by kernel_rfl) (by kernel_rfl) ?_)
          | (at_builtin; refine wpList_append_sv _ rfl (.tmp 18) (.tmp 23) 22 rfl w.heap.size 32 i0 (.agg #[.int .i64 0, .int .i64 0, .int .i64 0, .int .i64 0, .int .i64 0, .int .i64 0, .int .i64 0, .int .i64 0, .int .i64 0, .int .i64 0, .int .i64 0, .int .i64 0, .int .i64 0, .int .i64 0, .int .i64 0, .int .i64 0, .int .i64 0]) 17 136 Tryd.underlying22 HI.out HZ.out HZ1.out HZ2.out rfl (by decide) _ fo.length _ rfl HO3.out _ _ 1 1 (rowsE [x]) rfl HSN.out rfl (by unfold maxLen; omega) (by omega) HX3.out.size ?_; intro v6 W6 g1 g2 _))
        have HO6 := Lib.hid (show W6.ownsRow w.heap.size 32 17 v6 (fo ++ [x]).length (rowsE (fo ++ [x])).flatten by rw [rowsE_append, List.flatten_append, List.length_append]; exact g1)
        have HX6 := Lib.hid (HX3.out.own HO3.out g2 (Nat.le_refl _))
        obtain ⟨A6, c6, rfl, _⟩ := own_form HO6.out
        clear g1 g2
        go_roundw
        case rel => exact ⟨k + 1, by go_num, by omega, by rw [HT.out, HFX.out]; exact HO6.out, HX6.out⟩
        case measure => simp [intOf]; omega
    · obtain rfl : k = l.length := by omega
      rw [List.take_length] at HO
      rw [List.take_length]
      clear ho hx
      go_wp2_with fail
      go_ret
      exact ⟨A1, c1, rfl, Sv.of_own HO.out (rowsE_rwk _) (rowsE_length _), HX.out⟩
end Go.Proofs.YtcfebfblmmbeaaaDoor

/- The reference's IsForked. -/
namespace Go.Proofs.YtcfebfblmmbeaaaDoor
open Go Go.RowKit

/-- Two edits of the formed ones bear the name and differ: found among pairs before (i, k). -/
def PairB (m : List Ed) (n : Nm) (i k : Nat) : Prop := ∃ (a b : Nat) (x y : Ed), m[a]? = some x ∧ m[b]? = some y ∧ (a < i ∨ (a = i ∧ b < k)) ∧ nmE x = n ∧ nmE y = n ∧ x ≠ y
theorem PairB.step {m : List Ed} {n : Nm} {i k : Nat} {x y : Ed} (hx : m[i]? = some x) (hy : m[k]? = some y) (h : ¬ PairB m n i k) (hno : ¬ (nmE x = n ∧ nmE y = n ∧ x ≠ y)) : ¬ PairB m n i (k + 1) := by
  rintro ⟨a, b, u, v, h1, h2, h3, h4⟩
  by_cases hk : a = i ∧ b = k
  · obtain ⟨rfl, rfl⟩ := hk
    rw [hx] at h1; rw [hy] at h2
    injection h1 with h1; injection h2 with h2
    subst h1 h2
    exact hno h4
  · exact h ⟨a, b, u, v, h1, h2, by omega, h4⟩
theorem PairB.row {m : List Ed} {n : Nm} {i : Nat} (h : ¬ PairB m n i m.length) : ¬ PairB m n (i + 1) 0 := by
  rintro ⟨a, b, u, v, h1, h2, h3, h4⟩
  have := (List.getElem?_eq_some_iff.1 h2).1
  exact h ⟨a, b, u, v, h1, h2, by omega, h4⟩
theorem PairB.start (m : List Ed) (n : Nm) : ¬ PairB m n 0 0 := by
  rintro ⟨a, b, u, v, h1, h2, h3, h4⟩
  omega
theorem PairB.yes {l : List Ed} {n : Nm} {i k : Nat} {x y : Ed} (hx : (l.filter formedE)[i]? = some x) (hy : (l.filter formedE)[k]? = some y) (h1 : nmE x = n) (h2 : nmE y = n) (h3 : x ≠ y) : Forked l n := by
  have a := List.mem_filter.1 (List.mem_of_getElem? hx)
  have b := List.mem_filter.1 (List.mem_of_getElem? hy)
  exact ⟨x, y, ⟨a.1, a.2, h1⟩, ⟨b.1, b.2, h2⟩, h3⟩
theorem PairB.no {l : List Ed} {n : Nm} (h : ¬ PairB (l.filter formedE) n (l.filter formedE).length 0) : ¬ Forked l n := by
  rintro ⟨x, y, ⟨a1, a2, a3⟩, ⟨b1, b2, b3⟩, hne⟩
  obtain ⟨i, hi⟩ := List.getElem?_of_mem (List.mem_filter.2 ⟨a1, a2⟩)
  obtain ⟨k, hk⟩ := List.getElem?_of_mem (List.mem_filter.2 ⟨b1, b2⟩)
  exact h ⟨i, k, x, y, hi, hk, .inl (List.getElem?_eq_some_iff.1 hi).1, a3, b3, hne⟩
def RetFk (l : List Ed) (n : Nm) (w : World) (en : Ending) (w' : World) : Prop := ∃ b : Bool, en = .returned (.bool b) ∧ (b = true ↔ Forked l n) ∧ Ext w w'
set_option maxRecDepth 100000 in
set_option maxHeartbeats 8000000 in
theorem refIsForked_any (A : Option Addr) (c : Nat) (l : List Ed) (n : Nm) (w : World) (hs : Sv w w.heap.size 17 A c (rowsE l)) (hb : l.length ≤ 1034834473200) :
    Calls Tryd.prog 34 #[.slice A l.length c, nmV n] w (RetFk l n w) := by
  have hm := mixed
  have hx0 : Ext w (w.alloc (.cells n.cells.toArray 24)) := (Ext.refl w).alloc _
  have HFO := Lib.hid (refformed_any A c l _ (hs.ext hx0) hb)
  have HX0 := Lib.hid hx0
  have HB0 := Lib.hid (Arr.new w 24 n.cells)
  clear hs hx0
  unfold nmV
  go_enter Tryd.func34, Tryd.ntmps34
  go_upto_region 1 with fail
  obtain ⟨W0, hW⟩ : ∃ W, W = w.alloc (.cells n.cells.toArray 24) := ⟨_, rfl⟩
  have hW' : W0 = w.alloc (.cells #[.int .i64 n.site, .int .i64 n.seq] 24) := hW
  rw [← hW] at HFO HX0 HB0
  rw [← hW']
  clear hW hW'
  go_wp2_with (go_at_call 40; refine HFO.out.mono ?_; rintro e W1 ⟨A1, cq, rfl, hs1, hx1⟩)
  have hml : (l.filter formedE).length ≤ 1034834473200 := Nat.le_trans (filter_le l) hb
  have HNO := Lib.hid (fun h => PairB.no (l := l) (n := n) h)
  have HYES := Lib.hid (fun (i k : Nat) (x y : Ed) => PairB.yes (l := l) (n := n) (i := i) (k := k) (x := x) (y := y))
  generalize l.filter formedE = m at hs1 hml HNO HYES
  have HS := Lib.hid hs1; have HX1 := Lib.hid (HX0.out.trans hx1); have HB1 := Lib.hid (HB0.out.ext hx1)
  clear hs1 hx1
  go_loopw [6] (fun iv wr => ∃ i : Nat, iv = .int .i64 i ∧ i ≤ m.length ∧ ¬ PairB m n i 0 ∧ Ext W1 wr) (fun iv _ => m.length - (intOf iv).toNat)
  case atStart => exact ⟨0, rfl, Nat.zero_le _, PairB.start m n, Ext.refl _⟩
  case round =>
    obtain ⟨ni, rfl, hi, hp, hx⟩ := hrel
    have HP := Lib.hid hp; have HX := Lib.hid hx
    clear hp hx
    by_cases hlt : ni < m.length
    · go_wp2_with fail
      go_loopw [7] (fun kv wy => ∃ nk : Nat, kv = .int .i64 nk ∧ nk ≤ m.length ∧ ¬ PairB m n ni nk ∧ Ext W1 wy) (fun kv _ => m.length - (intOf kv).toNat)
      case atStart => exact ⟨0, rfl, Nat.zero_le _, HP.out, HX.out⟩
      case round =>
        obtain ⟨nk, rfl, hk, hp, hx⟩ := hrel
        have HPK := Lib.hid hp; have HXK := Lib.hid hx
        clear hp hx
        by_cases hlk : nk < m.length
        · obtain ⟨x, hxi⟩ : ∃ x, m[ni]? = some x := ⟨_, List.getElem?_eq_getElem hlt⟩
          obtain ⟨y, hyk⟩ : ∃ y, m[nk]? = some y := ⟨_, List.getElem?_eq_getElem hlk⟩
          obtain ⟨bq, oq, rfl, hbl, hra⟩ := ed_row HS.out hxi
          obtain ⟨b', off', he, _, hrb⟩ := ed_row HS.out hyk
          injection he with he
          injection he with he1 he2
          subst he1 he2
          have HRX := Lib.hid (fun w2 (h : Ext wr w2) => rangeAt_ext hra hbl (HXK.out.trans h))
          have HRY := Lib.hid (fun w2 (h : Ext wr w2) => rangeAt_ext hrb hbl (HXK.out.trans h))
          have HB3 := Lib.hid (HB1.out.ext HXK.out)
          have HXI := Lib.hid hxi; have HYK := Lib.hid hyk
          clear hxi hyk hra hrb hbl
          have hn1 := eqNm_run (nmE x) n
          have hn2 := eqNm_run (nmE y) n
          have hn3 := neqEd_run x y
          have hi0 : 0 ≤ (ni : Int) := by omega
          have hk0 : 0 ≤ (nk : Int) := by omega
          have hi1 : ¬ ((m.length : Int) ≤ (ni : Int)) := by omega
          have hk1 : ¬ ((m.length : Int) ≤ (nk : Int)) := by omega
          by_cases e1 : nmE x = n
          · rw [decide_eq_true e1] at hn1
            by_cases e2 : nmE y = n
            · rw [decide_eq_true e2] at hn2
              generalize hb3 : decide (x ≠ y) = b3 at hn3
              have HB9 := Lib.hid hb3
              clear hb3
              go_upto_region 8 with fail
              refine wp_region_rel (fun i v w' => match i with
                  | 0 => v = .slice (some ⟨bq, oq, none⟩) m.length cq
                  | 1 => v = .int .i64 (ni : Int)
                  | 2 => v = .pointer (some ⟨bq, oq + ni * 17, none⟩)
                  | 3 => v = .agg x.cells.toArray
                  | 4 => v = .agg (nmE x).cells.toArray
                  | 5 => v = .agg n.cells.toArray
                  | 6 => v = .bool true
                  | 7 => v = .bool true
                  | 8 => v = .slice (some ⟨bq, oq, none⟩) m.length cq
                  | 9 => v = .int .i64 (nk : Int)
                  | 10 => v = .pointer (some ⟨bq, oq + nk * 17, none⟩)
                  | 11 => v = .agg y.cells.toArray
                  | 12 => v = .agg (nmE y).cells.toArray
                  | 13 => v = .agg n.cells.toArray
                  | 14 => v = .bool true
                  | 15 => v = .bool true
                  | 16 => v = .bool true
                  | 17 => v = .slice (some ⟨bq, oq, none⟩) m.length cq
                  | 18 => v = .int .i64 (ni : Int)
                  | 19 => v = .pointer (some ⟨bq, oq + ni * 17, none⟩)
                  | 20 => v = .agg x.cells.toArray
                  | 21 => v = .slice (some ⟨bq, oq, none⟩) m.length cq
                  | 22 => v = .int .i64 (nk : Int)
                  | 23 => v = .pointer (some ⟨bq, oq + nk * 17, none⟩)
                  | 24 => v = .agg y.cells.toArray
                  | 25 => v = .bool b3
                  | 26 => v = .bool b3
                  | _ => True) hm (by kernel_rfl) (by kernel_rfl) rfl ?_ ?_ ?_
              · intro i v w1 w2 hx h
                match i, h with
                | 0, h => exact h
                | 1, h => exact h
                | 2, h => exact h
                | 3, h => exact h
                | 4, h => exact h
                | 5, h => exact h
                | 6, h => exact h
                | 7, h => exact h
                | 8, h => exact h
                | 9, h => exact h
                | 10, h => exact h
                | 11, h => exact h
                | 12, h => exact h
                | 13, h => exact h
                | 14, h => exact h
                | 15, h => exact h
                | 16, h => exact h
                | 17, h => exact h
                | 18, h => exact h
                | 19, h => exact h
                | 20, h => exact h
                | 21, h => exact h
                | 22, h => exact h
                | 23, h => exact h
                | 24, h => exact h
                | 25, h => exact h
                | 26, h => exact h
                | i + 27, h => exact h
              · intro i o ho b w1 hx hmiss hdep K hK
                match i, ho with
                | 0, ho =>
                  obtain rfl := Option.some.inj ho
                  have e5 : b.tmps[5]? = some (.slice (some ⟨bq, oq, none⟩) m.length cq) := hmiss 5 rfl
                  refine want_none rfl ?_
                  exact op_move rfl (eval_of e5) (hK _ w1 (Ext.refl _) rfl)
                | 1, ho =>
                  obtain rfl := Option.some.inj ho
                  have e6 : b.tmps[6]? = some (.int .i64 (ni : Int)) := hmiss 6 rfl
                  refine want_none rfl ?_
                  exact op_move rfl (eval_of e6) (hK _ w1 (Ext.refl _) rfl)
                | 2, ho =>
                  obtain rfl := Option.some.inj ho
                  obtain ⟨v22, g22, e22⟩ := hdep 0 rfl
                  have g22 : v22 = .slice (some ⟨bq, oq, none⟩) m.length cq := g22
                  subst g22
                  have e22 := e22 22 rfl
                  obtain ⟨v23, g23, e23⟩ := hdep 1 rfl
                  have g23 : v23 = .int .i64 (ni : Int) := g23
                  subst g23
                  have e23 := e23 23 rfl
                  refine want_none rfl ?_
                  exact op_run (by unfold execOp; simp [e22, e23, Act.eval, go_sem, hlt, hi0]) (hK _ w1 (Ext.refl _) rfl)
                | 3, ho =>
                  obtain rfl := Option.some.inj ho
                  obtain ⟨v24, g24, e24⟩ := hdep 2 rfl
                  have g24 : v24 = .pointer (some ⟨bq, oq + ni * 17, none⟩) := g24
                  subst g24
                  have e24 := e24 24 rfl
                  refine want_none rfl ?_
                  exact wp_load_mid 32 (.tmp 24) rfl (bq) (oq + ni * 17) (eval_of e24) (x.cells) _ (HRX.out _ hx) Tryd.underlying32 rfl (by kernel_rfl) (hK _ w1 (Ext.refl _) rfl)
                | 4, ho =>
                  obtain rfl := Option.some.inj ho
                  obtain ⟨v25, g25, e25⟩ := hdep 3 rfl
                  have g25 : v25 = .agg x.cells.toArray := g25
                  subst g25
                  have e25 := e25 25 rfl
                  refine want_none rfl ?_
                  have hc : Calls Tryd.prog 25 #[.agg x.cells.toArray] w1 fun e w' => ∃ v, e = .returned v ∧ Ext w1 w' ∧ (v = .agg (nmE x).cells.toArray) := (refName_any x w1).mono fun e w2 ⟨h1, h2⟩ => ⟨_, h1, h2, rfl⟩
                  exact op_call (G := fun v w' => v = .agg (nmE x).cells.toArray) rfl (by simp [eval_of e25]) (fun _ _ => by kernel_rfl) hc (fun v w' h1 h2 => hK v w' h1 h2)
                | 5, ho =>
                  obtain rfl := Option.some.inj ho
                  have e3 : b.tmps[3]? = some (.pointer (some ⟨w.heap.size, 0, none⟩)) := hmiss 3 rfl
                  refine want_none rfl ?_
                  exact op_loadrow rfl (eval_of e3) (HB3.out.ext hx) _ Tryd.underlying24 rfl (by kernel_rfl) (hK _ w1 (Ext.refl _) rfl)
                | 6, ho =>
                  obtain rfl := Option.some.inj ho
                  obtain ⟨v26, g26, e26⟩ := hdep 4 rfl
                  obtain rfl := g26
                  have e26 := e26 26 rfl
                  obtain ⟨v27, g27, e27⟩ := hdep 5 rfl
                  have g27 : v27 = .agg n.cells.toArray := g27
                  subst g27
                  have e27 := e27 27 rfl
                  refine want_none rfl ?_
                  exact op_run (by unfold execOp; simp [e26, e27, Act.eval, go_sem, hn1]) (hK _ w1 (Ext.refl _) rfl)
                | 7, ho =>
                  obtain rfl := Option.some.inj ho
                  obtain ⟨v28, g28, e28⟩ := hdep 6 rfl
                  have g28 : v28 = .bool true := g28
                  subst g28
                  have e28 := e28 28 rfl
                  refine want_none rfl ?_
                  exact op_move rfl (eval_of e28) (hK _ w1 (Ext.refl _) rfl)
                | 8, ho =>
                  obtain rfl := Option.some.inj ho
                  have e5 : b.tmps[5]? = some (.slice (some ⟨bq, oq, none⟩) m.length cq) := hmiss 5 rfl
                  obtain ⟨vg, gg, eg⟩ := hdep 7 rfl
                  have gg : vg = .bool true := gg
                  subst gg
                  have eg := eg 29 rfl
                  refine want_yes rfl rfl eg ?_
                  exact op_move rfl (eval_of e5) (hK _ w1 (Ext.refl _) rfl)
                | 9, ho =>
                  obtain rfl := Option.some.inj ho
                  have e7 : b.tmps[7]? = some (.int .i64 (nk : Int)) := hmiss 7 rfl
                  obtain ⟨vg, gg, eg⟩ := hdep 7 rfl
                  have gg : vg = .bool true := gg
                  subst gg
                  have eg := eg 29 rfl
                  refine want_yes rfl rfl eg ?_
                  exact op_move rfl (eval_of e7) (hK _ w1 (Ext.refl _) rfl)
                | 10, ho =>
                  obtain rfl := Option.some.inj ho
                  obtain ⟨v30, g30, e30⟩ := hdep 8 rfl
                  have g30 : v30 = .slice (some ⟨bq, oq, none⟩) m.length cq := g30
                  subst g30
                  have e30 := e30 30 rfl
                  obtain ⟨v31, g31, e31⟩ := hdep 9 rfl
                  have g31 : v31 = .int .i64 (nk : Int) := g31
                  subst g31
                  have e31 := e31 31 rfl
                  obtain ⟨vg, gg, eg⟩ := hdep 7 rfl
                  have gg : vg = .bool true := gg
                  subst gg
                  have eg := eg 29 rfl
                  refine want_yes rfl rfl eg ?_
                  exact op_run (by unfold execOp; simp [e30, e31, Act.eval, go_sem, hlk, hk0]) (hK _ w1 (Ext.refl _) rfl)
                | 11, ho =>
                  obtain rfl := Option.some.inj ho
                  obtain ⟨v32, g32, e32⟩ := hdep 10 rfl
                  have g32 : v32 = .pointer (some ⟨bq, oq + nk * 17, none⟩) := g32
                  subst g32
                  have e32 := e32 32 rfl
                  obtain ⟨vg, gg, eg⟩ := hdep 7 rfl
                  have gg : vg = .bool true := gg
                  subst gg
                  have eg := eg 29 rfl
                  refine want_yes rfl rfl eg ?_
                  exact wp_load_mid 32 (.tmp 32) rfl (bq) (oq + nk * 17) (eval_of e32) (y.cells) _ (HRY.out _ hx) Tryd.underlying32 rfl (by kernel_rfl) (hK _ w1 (Ext.refl _) rfl)
                | 12, ho =>
                  obtain rfl := Option.some.inj ho
                  obtain ⟨v33, g33, e33⟩ := hdep 11 rfl
                  have g33 : v33 = .agg y.cells.toArray := g33
                  subst g33
                  have e33 := e33 33 rfl
                  obtain ⟨vg, gg, eg⟩ := hdep 7 rfl
                  have gg : vg = .bool true := gg
                  subst gg
                  have eg := eg 29 rfl
                  refine want_yes rfl rfl eg ?_
                  have hc : Calls Tryd.prog 25 #[.agg y.cells.toArray] w1 fun e w' => ∃ v, e = .returned v ∧ Ext w1 w' ∧ (v = .agg (nmE y).cells.toArray) := (refName_any y w1).mono fun e w2 ⟨h1, h2⟩ => ⟨_, h1, h2, rfl⟩
                  exact op_call (G := fun v w' => v = .agg (nmE y).cells.toArray) rfl (by simp [eval_of e33]) (fun _ _ => by kernel_rfl) hc (fun v w' h1 h2 => hK v w' h1 h2)
                | 13, ho =>
                  obtain rfl := Option.some.inj ho
                  have e3 : b.tmps[3]? = some (.pointer (some ⟨w.heap.size, 0, none⟩)) := hmiss 3 rfl
                  obtain ⟨vg, gg, eg⟩ := hdep 7 rfl
                  have gg : vg = .bool true := gg
                  subst gg
                  have eg := eg 29 rfl
                  refine want_yes rfl rfl eg ?_
                  exact op_loadrow rfl (eval_of e3) (HB3.out.ext hx) _ Tryd.underlying24 rfl (by kernel_rfl) (hK _ w1 (Ext.refl _) rfl)
                | 14, ho =>
                  obtain rfl := Option.some.inj ho
                  obtain ⟨v34, g34, e34⟩ := hdep 12 rfl
                  obtain rfl := g34
                  have e34 := e34 34 rfl
                  obtain ⟨v35, g35, e35⟩ := hdep 13 rfl
                  have g35 : v35 = .agg n.cells.toArray := g35
                  subst g35
                  have e35 := e35 35 rfl
                  obtain ⟨vg, gg, eg⟩ := hdep 7 rfl
                  have gg : vg = .bool true := gg
                  subst gg
                  have eg := eg 29 rfl
                  refine want_yes rfl rfl eg ?_
                  exact op_run (by unfold execOp; simp [e34, e35, Act.eval, go_sem, hn2]) (hK _ w1 (Ext.refl _) rfl)
                | 15, ho =>
                  obtain rfl := Option.some.inj ho
                  obtain ⟨v29, g29, e29⟩ := hdep 7 rfl
                  have g29 : v29 = .bool true := g29
                  subst g29
                  have e29 := e29 29 rfl
                  obtain ⟨v36, g36, e36⟩ := hdep 14 rfl
                  have g36 : v36 = .bool true := g36
                  subst g36
                  have e36 := e36 36 rfl
                  refine want_none rfl ?_
                  exact op_run (by unfold execOp; simp [e29, e36, Act.eval, go_sem]) (hK _ w1 (Ext.refl _) rfl)
                | 16, ho =>
                  obtain rfl := Option.some.inj ho
                  obtain ⟨v37, g37, e37⟩ := hdep 15 rfl
                  have g37 : v37 = .bool true := g37
                  subst g37
                  have e37 := e37 37 rfl
                  refine want_none rfl ?_
                  exact op_move rfl (eval_of e37) (hK _ w1 (Ext.refl _) rfl)
                | 17, ho =>
                  obtain rfl := Option.some.inj ho
                  have e5 : b.tmps[5]? = some (.slice (some ⟨bq, oq, none⟩) m.length cq) := hmiss 5 rfl
                  obtain ⟨vg, gg, eg⟩ := hdep 16 rfl
                  have gg : vg = .bool true := gg
                  subst gg
                  have eg := eg 38 rfl
                  refine want_yes rfl rfl eg ?_
                  exact op_move rfl (eval_of e5) (hK _ w1 (Ext.refl _) rfl)
                | 18, ho =>
                  obtain rfl := Option.some.inj ho
                  have e6 : b.tmps[6]? = some (.int .i64 (ni : Int)) := hmiss 6 rfl
                  obtain ⟨vg, gg, eg⟩ := hdep 16 rfl
                  have gg : vg = .bool true := gg
                  subst gg
                  have eg := eg 38 rfl
                  refine want_yes rfl rfl eg ?_
                  exact op_move rfl (eval_of e6) (hK _ w1 (Ext.refl _) rfl)
                | 19, ho =>
                  obtain rfl := Option.some.inj ho
                  obtain ⟨v39, g39, e39⟩ := hdep 17 rfl
                  have g39 : v39 = .slice (some ⟨bq, oq, none⟩) m.length cq := g39
                  subst g39
                  have e39 := e39 39 rfl
                  obtain ⟨v40, g40, e40⟩ := hdep 18 rfl
                  have g40 : v40 = .int .i64 (ni : Int) := g40
                  subst g40
                  have e40 := e40 40 rfl
                  obtain ⟨vg, gg, eg⟩ := hdep 16 rfl
                  have gg : vg = .bool true := gg
                  subst gg
                  have eg := eg 38 rfl
                  refine want_yes rfl rfl eg ?_
                  exact op_run (by unfold execOp; simp [e39, e40, Act.eval, go_sem, hlt, hi0]) (hK _ w1 (Ext.refl _) rfl)
                | 20, ho =>
                  obtain rfl := Option.some.inj ho
                  obtain ⟨v41, g41, e41⟩ := hdep 19 rfl
                  have g41 : v41 = .pointer (some ⟨bq, oq + ni * 17, none⟩) := g41
                  subst g41
                  have e41 := e41 41 rfl
                  obtain ⟨vg, gg, eg⟩ := hdep 16 rfl
                  have gg : vg = .bool true := gg
                  subst gg
                  have eg := eg 38 rfl
                  refine want_yes rfl rfl eg ?_
                  exact wp_load_mid 32 (.tmp 41) rfl (bq) (oq + ni * 17) (eval_of e41) (x.cells) _ (HRX.out _ hx) Tryd.underlying32 rfl (by kernel_rfl) (hK _ w1 (Ext.refl _) rfl)
                | 21, ho =>
                  obtain rfl := Option.some.inj ho
                  have e5 : b.tmps[5]? = some (.slice (some ⟨bq, oq, none⟩) m.length cq) := hmiss 5 rfl
                  obtain ⟨vg, gg, eg⟩ := hdep 16 rfl
                  have gg : vg = .bool true := gg
                  subst gg
                  have eg := eg 38 rfl
                  refine want_yes rfl rfl eg ?_
                  exact op_move rfl (eval_of e5) (hK _ w1 (Ext.refl _) rfl)
                | 22, ho =>
                  obtain rfl := Option.some.inj ho
                  have e7 : b.tmps[7]? = some (.int .i64 (nk : Int)) := hmiss 7 rfl
                  obtain ⟨vg, gg, eg⟩ := hdep 16 rfl
                  have gg : vg = .bool true := gg
                  subst gg
                  have eg := eg 38 rfl
                  refine want_yes rfl rfl eg ?_
                  exact op_move rfl (eval_of e7) (hK _ w1 (Ext.refl _) rfl)
                | 23, ho =>
                  obtain rfl := Option.some.inj ho
                  obtain ⟨v43, g43, e43⟩ := hdep 21 rfl
                  have g43 : v43 = .slice (some ⟨bq, oq, none⟩) m.length cq := g43
                  subst g43
                  have e43 := e43 43 rfl
                  obtain ⟨v44, g44, e44⟩ := hdep 22 rfl
                  have g44 : v44 = .int .i64 (nk : Int) := g44
                  subst g44
                  have e44 := e44 44 rfl
                  obtain ⟨vg, gg, eg⟩ := hdep 16 rfl
                  have gg : vg = .bool true := gg
                  subst gg
                  have eg := eg 38 rfl
                  refine want_yes rfl rfl eg ?_
                  exact op_run (by unfold execOp; simp [e43, e44, Act.eval, go_sem, hlk, hk0]) (hK _ w1 (Ext.refl _) rfl)
                | 24, ho =>
                  obtain rfl := Option.some.inj ho
                  obtain ⟨v45, g45, e45⟩ := hdep 23 rfl
                  have g45 : v45 = .pointer (some ⟨bq, oq + nk * 17, none⟩) := g45
                  subst g45
                  have e45 := e45 45 rfl
                  obtain ⟨vg, gg, eg⟩ := hdep 16 rfl
                  have gg : vg = .bool true := gg
                  subst gg
                  have eg := eg 38 rfl
                  refine want_yes rfl rfl eg ?_
                  exact wp_load_mid 32 (.tmp 45) rfl (bq) (oq + nk * 17) (eval_of e45) (y.cells) _ (HRY.out _ hx) Tryd.underlying32 rfl (by kernel_rfl) (hK _ w1 (Ext.refl _) rfl)
                | 25, ho =>
                  obtain rfl := Option.some.inj ho
                  obtain ⟨v42, g42, e42⟩ := hdep 20 rfl
                  have g42 : v42 = .agg x.cells.toArray := g42
                  subst g42
                  have e42 := e42 42 rfl
                  obtain ⟨v46, g46, e46⟩ := hdep 24 rfl
                  have g46 : v46 = .agg y.cells.toArray := g46
                  subst g46
                  have e46 := e46 46 rfl
                  obtain ⟨vg, gg, eg⟩ := hdep 16 rfl
                  have gg : vg = .bool true := gg
                  subst gg
                  have eg := eg 38 rfl
                  refine want_yes rfl rfl eg ?_
                  exact op_run (by unfold execOp; simp [e42, e46, Act.eval, go_sem, hn3]) (hK _ w1 (Ext.refl _) rfl)
                | 26, ho =>
                  obtain rfl := Option.some.inj ho
                  obtain ⟨v38, g38, e38⟩ := hdep 16 rfl
                  have g38 : v38 = .bool true := g38
                  subst g38
                  have e38 := e38 38 rfl
                  obtain ⟨v47, g47, e47⟩ := hdep 25 rfl
                  have g47 : v47 = .bool b3 := g47
                  subst g47
                  have e47 := e47 47 rfl
                  refine want_none rfl ?_
                  exact op_run (by unfold execOp; simp [e38, e47, Act.eval, go_sem]) (hK _ w1 (Ext.refl _) rfl)
                | i + 27, ho => cases ho
              · intro V w9 hx hg
                have g0 : V 0 = .slice (some ⟨bq, oq, none⟩) m.length cq := hg 0 (by decide)
                have g1 : V 1 = .int .i64 (ni : Int) := hg 1 (by decide)
                have g2 : V 2 = .pointer (some ⟨bq, oq + ni * 17, none⟩) := hg 2 (by decide)
                have g3 : V 3 = .agg x.cells.toArray := hg 3 (by decide)
                have g5 : V 5 = .agg n.cells.toArray := hg 5 (by decide)
                have g6 : V 6 = .bool true := hg 6 (by decide)
                have g7 : V 7 = .bool true := hg 7 (by decide)
                have g8 : V 8 = .slice (some ⟨bq, oq, none⟩) m.length cq := hg 8 (by decide)
                have g9 : V 9 = .int .i64 (nk : Int) := hg 9 (by decide)
                have g10 : V 10 = .pointer (some ⟨bq, oq + nk * 17, none⟩) := hg 10 (by decide)
                have g11 : V 11 = .agg y.cells.toArray := hg 11 (by decide)
                have g13 : V 13 = .agg n.cells.toArray := hg 13 (by decide)
                have g14 : V 14 = .bool true := hg 14 (by decide)
                have g15 : V 15 = .bool true := hg 15 (by decide)
                have g16 : V 16 = .bool true := hg 16 (by decide)
                have g17 : V 17 = .slice (some ⟨bq, oq, none⟩) m.length cq := hg 17 (by decide)
                have g18 : V 18 = .int .i64 (ni : Int) := hg 18 (by decide)
                have g19 : V 19 = .pointer (some ⟨bq, oq + ni * 17, none⟩) := hg 19 (by decide)
                have g20 : V 20 = .agg x.cells.toArray := hg 20 (by decide)
                have g21 : V 21 = .slice (some ⟨bq, oq, none⟩) m.length cq := hg 21 (by decide)
                have g22 : V 22 = .int .i64 (nk : Int) := hg 22 (by decide)
                have g23 : V 23 = .pointer (some ⟨bq, oq + nk * 17, none⟩) := hg 23 (by decide)
                have g24 : V 24 = .agg y.cells.toArray := hg 24 (by decide)
                have g25 : V 25 = .bool b3 := hg 25 (by decide)
                have g26 : V 26 = .bool b3 := hg 26 (by decide)
                have g4 := hg 4 (by decide)
                have g12 := hg 12 (by decide)
                simp only [List.length_cons, List.length_nil, fillAllN, dstOf, Act.put, List.getElem?_toArray, List.getElem?_cons_zero, List.getElem?_cons_succ, Option.bind_some, g0, g1, g2, g3, g5, g6, g7, g8, g9, g10, g11, g13, g14, g15, g16, g17, g18, g19, g20, g21, g22, g23, g24, g25, g26, List.setIfInBounds_toArray, List.set_cons_zero, List.set_cons_succ]
                clear g0 g1 g2 g3 g5 g6 g7 g8 g9 g10 g11 g13 g14 g15 g16 g17 g18 g19 g20 g21 g22 g23 g24 g25 g26 hg
                have HX9 := Lib.hid hx
                clear hx hn1 hn2 hn3
                cases b3
                · have HNX := Lib.hid (PairB.step HXI.out HYK.out HPK.out (fun h => by have h9 := HB9.out; rw [decide_eq_true h.2.2] at h9; cases h9))
                  go_wp2_with fail
                  go_roundw
                  case rel => exact ⟨nk + 1, by go_num, by omega, HNX.out, HXK.out.trans HX9.out⟩
                  case measure => simp [intOf]; omega
                · have hne : x ≠ y := of_decide_eq_true HB9.out
                  go_wp2_with fail
                  go_ret
                  exact ⟨true, rfl, ⟨fun _ => HYES.out _ _ _ _ HXI.out HYK.out e1 e2 hne, fun _ => rfl⟩, HX1.out.trans (HXK.out.trans HX9.out)⟩
            · rw [decide_eq_false e2] at hn2
              have HNX := Lib.hid (PairB.step HXI.out HYK.out HPK.out (fun h => e2 h.2.1))
              go_upto_region 8 with fail
              refine wp_region_rel (fun i v w' => match i with
                  | 0 => v = .slice (some ⟨bq, oq, none⟩) m.length cq
                  | 1 => v = .int .i64 (ni : Int)
                  | 2 => v = .pointer (some ⟨bq, oq + ni * 17, none⟩)
                  | 3 => v = .agg x.cells.toArray
                  | 4 => v = .agg (nmE x).cells.toArray
                  | 5 => v = .agg n.cells.toArray
                  | 6 => v = .bool true
                  | 7 => v = .bool true
                  | 8 => v = .slice (some ⟨bq, oq, none⟩) m.length cq
                  | 9 => v = .int .i64 (nk : Int)
                  | 10 => v = .pointer (some ⟨bq, oq + nk * 17, none⟩)
                  | 11 => v = .agg y.cells.toArray
                  | 12 => v = .agg (nmE y).cells.toArray
                  | 13 => v = .agg n.cells.toArray
                  | 14 => v = .bool false
                  | 15 => v = .bool false
                  | 16 => v = .bool false
                  | 17 => v = undef
                  | 18 => v = undef
                  | 19 => v = undef
                  | 20 => v = undef
                  | 21 => v = undef
                  | 22 => v = undef
                  | 23 => v = undef
                  | 24 => v = undef
                  | 25 => v = undef
                  | 26 => v = .bool false
                  | _ => True) hm (by kernel_rfl) (by kernel_rfl) rfl ?_ ?_ ?_
              · intro i v w1 w2 hx h
                match i, h with
                | 0, h => exact h
                | 1, h => exact h
                | 2, h => exact h
                | 3, h => exact h
                | 4, h => exact h
                | 5, h => exact h
                | 6, h => exact h
                | 7, h => exact h
                | 8, h => exact h
                | 9, h => exact h
                | 10, h => exact h
                | 11, h => exact h
                | 12, h => exact h
                | 13, h => exact h
                | 14, h => exact h
                | 15, h => exact h
                | 16, h => exact h
                | 17, h => exact h
                | 18, h => exact h
                | 19, h => exact h
                | 20, h => exact h
                | 21, h => exact h
                | 22, h => exact h
                | 23, h => exact h
                | 24, h => exact h
                | 25, h => exact h
                | 26, h => exact h
                | i + 27, h => exact h
              · intro i o ho b w1 hx hmiss hdep K hK
                match i, ho with
                | 0, ho =>
                  obtain rfl := Option.some.inj ho
                  have e5 : b.tmps[5]? = some (.slice (some ⟨bq, oq, none⟩) m.length cq) := hmiss 5 rfl
                  refine want_none rfl ?_
                  exact op_move rfl (eval_of e5) (hK _ w1 (Ext.refl _) rfl)
                | 1, ho =>
                  obtain rfl := Option.some.inj ho
                  have e6 : b.tmps[6]? = some (.int .i64 (ni : Int)) := hmiss 6 rfl
                  refine want_none rfl ?_
                  exact op_move rfl (eval_of e6) (hK _ w1 (Ext.refl _) rfl)
                | 2, ho =>
                  obtain rfl := Option.some.inj ho
                  obtain ⟨v22, g22, e22⟩ := hdep 0 rfl
                  have g22 : v22 = .slice (some ⟨bq, oq, none⟩) m.length cq := g22
                  subst g22
                  have e22 := e22 22 rfl
                  obtain ⟨v23, g23, e23⟩ := hdep 1 rfl
                  have g23 : v23 = .int .i64 (ni : Int) := g23
                  subst g23
                  have e23 := e23 23 rfl
                  refine want_none rfl ?_
                  exact op_run (by unfold execOp; simp [e22, e23, Act.eval, go_sem, hlt, hi0]) (hK _ w1 (Ext.refl _) rfl)
                | 3, ho =>
                  obtain rfl := Option.some.inj ho
                  obtain ⟨v24, g24, e24⟩ := hdep 2 rfl
                  have g24 : v24 = .pointer (some ⟨bq, oq + ni * 17, none⟩) := g24
                  subst g24
                  have e24 := e24 24 rfl
                  refine want_none rfl ?_
                  exact wp_load_mid 32 (.tmp 24) rfl (bq) (oq + ni * 17) (eval_of e24) (x.cells) _ (HRX.out _ hx) Tryd.underlying32 rfl (by kernel_rfl) (hK _ w1 (Ext.refl _) rfl)
                | 4, ho =>
                  obtain rfl := Option.some.inj ho
                  obtain ⟨v25, g25, e25⟩ := hdep 3 rfl
                  have g25 : v25 = .agg x.cells.toArray := g25
                  subst g25
                  have e25 := e25 25 rfl
                  refine want_none rfl ?_
                  have hc : Calls Tryd.prog 25 #[.agg x.cells.toArray] w1 fun e w' => ∃ v, e = .returned v ∧ Ext w1 w' ∧ (v = .agg (nmE x).cells.toArray) := (refName_any x w1).mono fun e w2 ⟨h1, h2⟩ => ⟨_, h1, h2, rfl⟩
                  exact op_call (G := fun v w' => v = .agg (nmE x).cells.toArray) rfl (by simp [eval_of e25]) (fun _ _ => by kernel_rfl) hc (fun v w' h1 h2 => hK v w' h1 h2)
                | 5, ho =>
                  obtain rfl := Option.some.inj ho
                  have e3 : b.tmps[3]? = some (.pointer (some ⟨w.heap.size, 0, none⟩)) := hmiss 3 rfl
                  refine want_none rfl ?_
                  exact op_loadrow rfl (eval_of e3) (HB3.out.ext hx) _ Tryd.underlying24 rfl (by kernel_rfl) (hK _ w1 (Ext.refl _) rfl)
                | 6, ho =>
                  obtain rfl := Option.some.inj ho
                  obtain ⟨v26, g26, e26⟩ := hdep 4 rfl
                  obtain rfl := g26
                  have e26 := e26 26 rfl
                  obtain ⟨v27, g27, e27⟩ := hdep 5 rfl
                  have g27 : v27 = .agg n.cells.toArray := g27
                  subst g27
                  have e27 := e27 27 rfl
                  refine want_none rfl ?_
                  exact op_run (by unfold execOp; simp [e26, e27, Act.eval, go_sem, hn1]) (hK _ w1 (Ext.refl _) rfl)
                | 7, ho =>
                  obtain rfl := Option.some.inj ho
                  obtain ⟨v28, g28, e28⟩ := hdep 6 rfl
                  have g28 : v28 = .bool true := g28
                  subst g28
                  have e28 := e28 28 rfl
                  refine want_none rfl ?_
                  exact op_move rfl (eval_of e28) (hK _ w1 (Ext.refl _) rfl)
                | 8, ho =>
                  obtain rfl := Option.some.inj ho
                  have e5 : b.tmps[5]? = some (.slice (some ⟨bq, oq, none⟩) m.length cq) := hmiss 5 rfl
                  obtain ⟨vg, gg, eg⟩ := hdep 7 rfl
                  have gg : vg = .bool true := gg
                  subst gg
                  have eg := eg 29 rfl
                  refine want_yes rfl rfl eg ?_
                  exact op_move rfl (eval_of e5) (hK _ w1 (Ext.refl _) rfl)
                | 9, ho =>
                  obtain rfl := Option.some.inj ho
                  have e7 : b.tmps[7]? = some (.int .i64 (nk : Int)) := hmiss 7 rfl
                  obtain ⟨vg, gg, eg⟩ := hdep 7 rfl
                  have gg : vg = .bool true := gg
                  subst gg
                  have eg := eg 29 rfl
                  refine want_yes rfl rfl eg ?_
                  exact op_move rfl (eval_of e7) (hK _ w1 (Ext.refl _) rfl)
                | 10, ho =>
                  obtain rfl := Option.some.inj ho
                  obtain ⟨v30, g30, e30⟩ := hdep 8 rfl
                  have g30 : v30 = .slice (some ⟨bq, oq, none⟩) m.length cq := g30
                  subst g30
                  have e30 := e30 30 rfl
                  obtain ⟨v31, g31, e31⟩ := hdep 9 rfl
                  have g31 : v31 = .int .i64 (nk : Int) := g31
                  subst g31
                  have e31 := e31 31 rfl
                  obtain ⟨vg, gg, eg⟩ := hdep 7 rfl
                  have gg : vg = .bool true := gg
                  subst gg
                  have eg := eg 29 rfl
                  refine want_yes rfl rfl eg ?_
                  exact op_run (by unfold execOp; simp [e30, e31, Act.eval, go_sem, hlk, hk0]) (hK _ w1 (Ext.refl _) rfl)
                | 11, ho =>
                  obtain rfl := Option.some.inj ho
                  obtain ⟨v32, g32, e32⟩ := hdep 10 rfl
                  have g32 : v32 = .pointer (some ⟨bq, oq + nk * 17, none⟩) := g32
                  subst g32
                  have e32 := e32 32 rfl
                  obtain ⟨vg, gg, eg⟩ := hdep 7 rfl
                  have gg : vg = .bool true := gg
                  subst gg
                  have eg := eg 29 rfl
                  refine want_yes rfl rfl eg ?_
                  exact wp_load_mid 32 (.tmp 32) rfl (bq) (oq + nk * 17) (eval_of e32) (y.cells) _ (HRY.out _ hx) Tryd.underlying32 rfl (by kernel_rfl) (hK _ w1 (Ext.refl _) rfl)
                | 12, ho =>
                  obtain rfl := Option.some.inj ho
                  obtain ⟨v33, g33, e33⟩ := hdep 11 rfl
                  have g33 : v33 = .agg y.cells.toArray := g33
                  subst g33
                  have e33 := e33 33 rfl
                  obtain ⟨vg, gg, eg⟩ := hdep 7 rfl
                  have gg : vg = .bool true := gg
                  subst gg
                  have eg := eg 29 rfl
                  refine want_yes rfl rfl eg ?_
                  have hc : Calls Tryd.prog 25 #[.agg y.cells.toArray] w1 fun e w' => ∃ v, e = .returned v ∧ Ext w1 w' ∧ (v = .agg (nmE y).cells.toArray) := (refName_any y w1).mono fun e w2 ⟨h1, h2⟩ => ⟨_, h1, h2, rfl⟩
                  exact op_call (G := fun v w' => v = .agg (nmE y).cells.toArray) rfl (by simp [eval_of e33]) (fun _ _ => by kernel_rfl) hc (fun v w' h1 h2 => hK v w' h1 h2)
                | 13, ho =>
                  obtain rfl := Option.some.inj ho
                  have e3 : b.tmps[3]? = some (.pointer (some ⟨w.heap.size, 0, none⟩)) := hmiss 3 rfl
                  obtain ⟨vg, gg, eg⟩ := hdep 7 rfl
                  have gg : vg = .bool true := gg
                  subst gg
                  have eg := eg 29 rfl
                  refine want_yes rfl rfl eg ?_
                  exact op_loadrow rfl (eval_of e3) (HB3.out.ext hx) _ Tryd.underlying24 rfl (by kernel_rfl) (hK _ w1 (Ext.refl _) rfl)
                | 14, ho =>
                  obtain rfl := Option.some.inj ho
                  obtain ⟨v34, g34, e34⟩ := hdep 12 rfl
                  obtain rfl := g34
                  have e34 := e34 34 rfl
                  obtain ⟨v35, g35, e35⟩ := hdep 13 rfl
                  have g35 : v35 = .agg n.cells.toArray := g35
                  subst g35
                  have e35 := e35 35 rfl
                  obtain ⟨vg, gg, eg⟩ := hdep 7 rfl
                  have gg : vg = .bool true := gg
                  subst gg
                  have eg := eg 29 rfl
                  refine want_yes rfl rfl eg ?_
                  exact op_run (by unfold execOp; simp [e34, e35, Act.eval, go_sem, hn2]) (hK _ w1 (Ext.refl _) rfl)
                | 15, ho =>
                  obtain rfl := Option.some.inj ho
                  obtain ⟨v29, g29, e29⟩ := hdep 7 rfl
                  have g29 : v29 = .bool true := g29
                  subst g29
                  have e29 := e29 29 rfl
                  obtain ⟨v36, g36, e36⟩ := hdep 14 rfl
                  have g36 : v36 = .bool false := g36
                  subst g36
                  have e36 := e36 36 rfl
                  refine want_none rfl ?_
                  exact op_run (by unfold execOp; simp [e29, e36, Act.eval, go_sem]) (hK _ w1 (Ext.refl _) rfl)
                | 16, ho =>
                  obtain rfl := Option.some.inj ho
                  obtain ⟨v37, g37, e37⟩ := hdep 15 rfl
                  have g37 : v37 = .bool false := g37
                  subst g37
                  have e37 := e37 37 rfl
                  refine want_none rfl ?_
                  exact op_move rfl (eval_of e37) (hK _ w1 (Ext.refl _) rfl)
                | 17, ho =>
                  obtain rfl := Option.some.inj ho
                  obtain ⟨vg, gg, eg⟩ := hdep 16 rfl
                  have gg : vg = .bool false := gg
                  subst gg
                  have eg := eg 38 rfl
                  exact want_no rfl rfl (.inl eg) (hK _ w1 (Ext.refl _) rfl)
                | 18, ho =>
                  obtain rfl := Option.some.inj ho
                  obtain ⟨vg, gg, eg⟩ := hdep 16 rfl
                  have gg : vg = .bool false := gg
                  subst gg
                  have eg := eg 38 rfl
                  exact want_no rfl rfl (.inl eg) (hK _ w1 (Ext.refl _) rfl)
                | 19, ho =>
                  obtain rfl := Option.some.inj ho
                  obtain ⟨vg, gg, eg⟩ := hdep 16 rfl
                  have gg : vg = .bool false := gg
                  subst gg
                  have eg := eg 38 rfl
                  exact want_no rfl rfl (.inl eg) (hK _ w1 (Ext.refl _) rfl)
                | 20, ho =>
                  obtain rfl := Option.some.inj ho
                  obtain ⟨vg, gg, eg⟩ := hdep 16 rfl
                  have gg : vg = .bool false := gg
                  subst gg
                  have eg := eg 38 rfl
                  exact want_no rfl rfl (.inl eg) (hK _ w1 (Ext.refl _) rfl)
                | 21, ho =>
                  obtain rfl := Option.some.inj ho
                  obtain ⟨vg, gg, eg⟩ := hdep 16 rfl
                  have gg : vg = .bool false := gg
                  subst gg
                  have eg := eg 38 rfl
                  exact want_no rfl rfl (.inl eg) (hK _ w1 (Ext.refl _) rfl)
                | 22, ho =>
                  obtain rfl := Option.some.inj ho
                  obtain ⟨vg, gg, eg⟩ := hdep 16 rfl
                  have gg : vg = .bool false := gg
                  subst gg
                  have eg := eg 38 rfl
                  exact want_no rfl rfl (.inl eg) (hK _ w1 (Ext.refl _) rfl)
                | 23, ho =>
                  obtain rfl := Option.some.inj ho
                  obtain ⟨vg, gg, eg⟩ := hdep 16 rfl
                  have gg : vg = .bool false := gg
                  subst gg
                  have eg := eg 38 rfl
                  exact want_no rfl rfl (.inl eg) (hK _ w1 (Ext.refl _) rfl)
                | 24, ho =>
                  obtain rfl := Option.some.inj ho
                  obtain ⟨vg, gg, eg⟩ := hdep 16 rfl
                  have gg : vg = .bool false := gg
                  subst gg
                  have eg := eg 38 rfl
                  exact want_no rfl rfl (.inl eg) (hK _ w1 (Ext.refl _) rfl)
                | 25, ho =>
                  obtain rfl := Option.some.inj ho
                  obtain ⟨vg, gg, eg⟩ := hdep 16 rfl
                  have gg : vg = .bool false := gg
                  subst gg
                  have eg := eg 38 rfl
                  exact want_no rfl rfl (.inl eg) (hK _ w1 (Ext.refl _) rfl)
                | 26, ho =>
                  obtain rfl := Option.some.inj ho
                  obtain ⟨v38, g38, e38⟩ := hdep 16 rfl
                  have g38 : v38 = .bool false := g38
                  subst g38
                  have e38 := e38 38 rfl
                  obtain ⟨v47, g47, e47⟩ := hdep 25 rfl
                  have g47 : v47 = undef := g47
                  subst g47
                  have e47 := e47 47 rfl
                  refine want_none rfl ?_
                  exact op_run (by unfold execOp; simp [e38, e47, Act.eval, go_sem]) (hK _ w1 (Ext.refl _) rfl)
                | i + 27, ho => cases ho
              · intro V w9 hx hg
                have g0 : V 0 = .slice (some ⟨bq, oq, none⟩) m.length cq := hg 0 (by decide)
                have g1 : V 1 = .int .i64 (ni : Int) := hg 1 (by decide)
                have g2 : V 2 = .pointer (some ⟨bq, oq + ni * 17, none⟩) := hg 2 (by decide)
                have g3 : V 3 = .agg x.cells.toArray := hg 3 (by decide)
                have g5 : V 5 = .agg n.cells.toArray := hg 5 (by decide)
                have g6 : V 6 = .bool true := hg 6 (by decide)
                have g7 : V 7 = .bool true := hg 7 (by decide)
                have g8 : V 8 = .slice (some ⟨bq, oq, none⟩) m.length cq := hg 8 (by decide)
                have g9 : V 9 = .int .i64 (nk : Int) := hg 9 (by decide)
                have g10 : V 10 = .pointer (some ⟨bq, oq + nk * 17, none⟩) := hg 10 (by decide)
                have g11 : V 11 = .agg y.cells.toArray := hg 11 (by decide)
                have g13 : V 13 = .agg n.cells.toArray := hg 13 (by decide)
                have g14 : V 14 = .bool false := hg 14 (by decide)
                have g15 : V 15 = .bool false := hg 15 (by decide)
                have g16 : V 16 = .bool false := hg 16 (by decide)
                have g17 : V 17 = undef := hg 17 (by decide)
                have g18 : V 18 = undef := hg 18 (by decide)
                have g19 : V 19 = undef := hg 19 (by decide)
                have g20 : V 20 = undef := hg 20 (by decide)
                have g21 : V 21 = undef := hg 21 (by decide)
                have g22 : V 22 = undef := hg 22 (by decide)
                have g23 : V 23 = undef := hg 23 (by decide)
                have g24 : V 24 = undef := hg 24 (by decide)
                have g25 : V 25 = undef := hg 25 (by decide)
                have g26 : V 26 = .bool false := hg 26 (by decide)
                have g4 := hg 4 (by decide)
                have g12 := hg 12 (by decide)
                simp only [List.length_cons, List.length_nil, fillAllN, dstOf, Act.put, List.getElem?_toArray, List.getElem?_cons_zero, List.getElem?_cons_succ, Option.bind_some, g0, g1, g2, g3, g5, g6, g7, g8, g9, g10, g11, g13, g14, g15, g16, g17, g18, g19, g20, g21, g22, g23, g24, g25, g26, List.setIfInBounds_toArray, List.set_cons_zero, List.set_cons_succ]
                clear g0 g1 g2 g3 g5 g6 g7 g8 g9 g10 g11 g13 g14 g15 g16 g17 g18 g19 g20 g21 g22 g23 g24 g25 g26 hg
                have HX9 := Lib.hid hx
                clear hx hn1 hn2 hn3
                go_wp2_with fail
                go_roundw
                case rel => exact ⟨nk + 1, by go_num, by omega, HNX.out, HXK.out.trans HX9.out⟩
                case measure => simp [intOf]; omega
          · rw [decide_eq_false e1] at hn1
            have HNX := Lib.hid (PairB.step HXI.out HYK.out HPK.out (fun h => e1 h.1))
            go_upto_region 8 with fail
            refine wp_region_rel (fun i v w' => match i with
                | 0 => v = .slice (some ⟨bq, oq, none⟩) m.length cq
                | 1 => v = .int .i64 (ni : Int)
                | 2 => v = .pointer (some ⟨bq, oq + ni * 17, none⟩)
                | 3 => v = .agg x.cells.toArray
                | 4 => v = .agg (nmE x).cells.toArray
                | 5 => v = .agg n.cells.toArray
                | 6 => v = .bool false
                | 7 => v = .bool false
                | 8 => v = undef
                | 9 => v = undef
                | 10 => v = undef
                | 11 => v = undef
                | 12 => v = undef
                | 13 => v = undef
                | 14 => v = undef
                | 15 => v = .bool false
                | 16 => v = .bool false
                | 17 => v = undef
                | 18 => v = undef
                | 19 => v = undef
                | 20 => v = undef
                | 21 => v = undef
                | 22 => v = undef
                | 23 => v = undef
                | 24 => v = undef
                | 25 => v = undef
                | 26 => v = .bool false
                | _ => True) hm (by kernel_rfl) (by kernel_rfl) rfl ?_ ?_ ?_
            · intro i v w1 w2 hx h
              match i, h with
              | 0, h => exact h
              | 1, h => exact h
              | 2, h => exact h
              | 3, h => exact h
              | 4, h => exact h
              | 5, h => exact h
              | 6, h => exact h
              | 7, h => exact h
              | 8, h => exact h
              | 9, h => exact h
              | 10, h => exact h
              | 11, h => exact h
              | 12, h => exact h
              | 13, h => exact h
              | 14, h => exact h
              | 15, h => exact h
              | 16, h => exact h
              | 17, h => exact h
              | 18, h => exact h
              | 19, h => exact h
              | 20, h => exact h
              | 21, h => exact h
              | 22, h => exact h
              | 23, h => exact h
              | 24, h => exact h
              | 25, h => exact h
              | 26, h => exact h
              | i + 27, h => exact h
            · intro i o ho b w1 hx hmiss hdep K hK
              match i, ho with
              | 0, ho =>
                obtain rfl := Option.some.inj ho
                have e5 : b.tmps[5]? = some (.slice (some ⟨bq, oq, none⟩) m.length cq) := hmiss 5 rfl
                refine want_none rfl ?_
                exact op_move rfl (eval_of e5) (hK _ w1 (Ext.refl _) rfl)
              | 1, ho =>
                obtain rfl := Option.some.inj ho
                have e6 : b.tmps[6]? = some (.int .i64 (ni : Int)) := hmiss 6 rfl
                refine want_none rfl ?_
                exact op_move rfl (eval_of e6) (hK _ w1 (Ext.refl _) rfl)
              | 2, ho =>
                obtain rfl := Option.some.inj ho
                obtain ⟨v22, g22, e22⟩ := hdep 0 rfl
                have g22 : v22 = .slice (some ⟨bq, oq, none⟩) m.length cq := g22
                subst g22
                have e22 := e22 22 rfl
                obtain ⟨v23, g23, e23⟩ := hdep 1 rfl
                have g23 : v23 = .int .i64 (ni : Int) := g23
                subst g23
                have e23 := e23 23 rfl
                refine want_none rfl ?_
                exact op_run (by unfold execOp; simp [e22, e23, Act.eval, go_sem, hlt, hi0]) (hK _ w1 (Ext.refl _) rfl)
              | 3, ho =>
                obtain rfl := Option.some.inj ho
                obtain ⟨v24, g24, e24⟩ := hdep 2 rfl
                have g24 : v24 = .pointer (some ⟨bq, oq + ni * 17, none⟩) := g24
                subst g24
                have e24 := e24 24 rfl
                refine want_none rfl ?_
                exact wp_load_mid 32 (.tmp 24) rfl (bq) (oq + ni * 17) (eval_of e24) (x.cells) _ (HRX.out _ hx) Tryd.underlying32 rfl (by kernel_rfl) (hK _ w1 (Ext.refl _) rfl)
              | 4, ho =>
                obtain rfl := Option.some.inj ho
                obtain ⟨v25, g25, e25⟩ := hdep 3 rfl
                have g25 : v25 = .agg x.cells.toArray := g25
                subst g25
                have e25 := e25 25 rfl
                refine want_none rfl ?_
                have hc : Calls Tryd.prog 25 #[.agg x.cells.toArray] w1 fun e w' => ∃ v, e = .returned v ∧ Ext w1 w' ∧ (v = .agg (nmE x).cells.toArray) := (refName_any x w1).mono fun e w2 ⟨h1, h2⟩ => ⟨_, h1, h2, rfl⟩
                exact op_call (G := fun v w' => v = .agg (nmE x).cells.toArray) rfl (by simp [eval_of e25]) (fun _ _ => by kernel_rfl) hc (fun v w' h1 h2 => hK v w' h1 h2)
              | 5, ho =>
                obtain rfl := Option.some.inj ho
                have e3 : b.tmps[3]? = some (.pointer (some ⟨w.heap.size, 0, none⟩)) := hmiss 3 rfl
                refine want_none rfl ?_
                exact op_loadrow rfl (eval_of e3) (HB3.out.ext hx) _ Tryd.underlying24 rfl (by kernel_rfl) (hK _ w1 (Ext.refl _) rfl)
              | 6, ho =>
                obtain rfl := Option.some.inj ho
                obtain ⟨v26, g26, e26⟩ := hdep 4 rfl
                obtain rfl := g26
                have e26 := e26 26 rfl
                obtain ⟨v27, g27, e27⟩ := hdep 5 rfl
                have g27 : v27 = .agg n.cells.toArray := g27
                subst g27
                have e27 := e27 27 rfl
                refine want_none rfl ?_
                exact op_run (by unfold execOp; simp [e26, e27, Act.eval, go_sem, hn1]) (hK _ w1 (Ext.refl _) rfl)
              | 7, ho =>
                obtain rfl := Option.some.inj ho
                obtain ⟨v28, g28, e28⟩ := hdep 6 rfl
                have g28 : v28 = .bool false := g28
                subst g28
                have e28 := e28 28 rfl
                refine want_none rfl ?_
                exact op_move rfl (eval_of e28) (hK _ w1 (Ext.refl _) rfl)
              | 8, ho =>
                obtain rfl := Option.some.inj ho
                obtain ⟨vg, gg, eg⟩ := hdep 7 rfl
                have gg : vg = .bool false := gg
                subst gg
                have eg := eg 29 rfl
                exact want_no rfl rfl (.inl eg) (hK _ w1 (Ext.refl _) rfl)
              | 9, ho =>
                obtain rfl := Option.some.inj ho
                obtain ⟨vg, gg, eg⟩ := hdep 7 rfl
                have gg : vg = .bool false := gg
                subst gg
                have eg := eg 29 rfl
                exact want_no rfl rfl (.inl eg) (hK _ w1 (Ext.refl _) rfl)
              | 10, ho =>
                obtain rfl := Option.some.inj ho
                obtain ⟨vg, gg, eg⟩ := hdep 7 rfl
                have gg : vg = .bool false := gg
                subst gg
                have eg := eg 29 rfl
                exact want_no rfl rfl (.inl eg) (hK _ w1 (Ext.refl _) rfl)
              | 11, ho =>
                obtain rfl := Option.some.inj ho
                obtain ⟨vg, gg, eg⟩ := hdep 7 rfl
                have gg : vg = .bool false := gg
                subst gg
                have eg := eg 29 rfl
                exact want_no rfl rfl (.inl eg) (hK _ w1 (Ext.refl _) rfl)
              | 12, ho =>
                obtain rfl := Option.some.inj ho
                obtain ⟨vg, gg, eg⟩ := hdep 7 rfl
                have gg : vg = .bool false := gg
                subst gg
                have eg := eg 29 rfl
                exact want_no rfl rfl (.inl eg) (hK _ w1 (Ext.refl _) rfl)
              | 13, ho =>
                obtain rfl := Option.some.inj ho
                obtain ⟨vg, gg, eg⟩ := hdep 7 rfl
                have gg : vg = .bool false := gg
                subst gg
                have eg := eg 29 rfl
                exact want_no rfl rfl (.inl eg) (hK _ w1 (Ext.refl _) rfl)
              | 14, ho =>
                obtain rfl := Option.some.inj ho
                obtain ⟨vg, gg, eg⟩ := hdep 7 rfl
                have gg : vg = .bool false := gg
                subst gg
                have eg := eg 29 rfl
                exact want_no rfl rfl (.inl eg) (hK _ w1 (Ext.refl _) rfl)
              | 15, ho =>
                obtain rfl := Option.some.inj ho
                obtain ⟨v29, g29, e29⟩ := hdep 7 rfl
                have g29 : v29 = .bool false := g29
                subst g29
                have e29 := e29 29 rfl
                obtain ⟨v36, g36, e36⟩ := hdep 14 rfl
                have g36 : v36 = undef := g36
                subst g36
                have e36 := e36 36 rfl
                refine want_none rfl ?_
                exact op_run (by unfold execOp; simp [e29, e36, Act.eval, go_sem]) (hK _ w1 (Ext.refl _) rfl)
              | 16, ho =>
                obtain rfl := Option.some.inj ho
                obtain ⟨v37, g37, e37⟩ := hdep 15 rfl
                have g37 : v37 = .bool false := g37
                subst g37
                have e37 := e37 37 rfl
                refine want_none rfl ?_
                exact op_move rfl (eval_of e37) (hK _ w1 (Ext.refl _) rfl)
              | 17, ho =>
                obtain rfl := Option.some.inj ho
                obtain ⟨vg, gg, eg⟩ := hdep 16 rfl
                have gg : vg = .bool false := gg
                subst gg
                have eg := eg 38 rfl
                exact want_no rfl rfl (.inl eg) (hK _ w1 (Ext.refl _) rfl)
              | 18, ho =>
                obtain rfl := Option.some.inj ho
                obtain ⟨vg, gg, eg⟩ := hdep 16 rfl
                have gg : vg = .bool false := gg
                subst gg
                have eg := eg 38 rfl
                exact want_no rfl rfl (.inl eg) (hK _ w1 (Ext.refl _) rfl)
              | 19, ho =>
                obtain rfl := Option.some.inj ho
                obtain ⟨vg, gg, eg⟩ := hdep 16 rfl
                have gg : vg = .bool false := gg
                subst gg
                have eg := eg 38 rfl
                exact want_no rfl rfl (.inl eg) (hK _ w1 (Ext.refl _) rfl)
              | 20, ho =>
                obtain rfl := Option.some.inj ho
                obtain ⟨vg, gg, eg⟩ := hdep 16 rfl
                have gg : vg = .bool false := gg
                subst gg
                have eg := eg 38 rfl
                exact want_no rfl rfl (.inl eg) (hK _ w1 (Ext.refl _) rfl)
              | 21, ho =>
                obtain rfl := Option.some.inj ho
                obtain ⟨vg, gg, eg⟩ := hdep 16 rfl
                have gg : vg = .bool false := gg
                subst gg
                have eg := eg 38 rfl
                exact want_no rfl rfl (.inl eg) (hK _ w1 (Ext.refl _) rfl)
              | 22, ho =>
                obtain rfl := Option.some.inj ho
                obtain ⟨vg, gg, eg⟩ := hdep 16 rfl
                have gg : vg = .bool false := gg
                subst gg
                have eg := eg 38 rfl
                exact want_no rfl rfl (.inl eg) (hK _ w1 (Ext.refl _) rfl)
              | 23, ho =>
                obtain rfl := Option.some.inj ho
                obtain ⟨vg, gg, eg⟩ := hdep 16 rfl
                have gg : vg = .bool false := gg
                subst gg
                have eg := eg 38 rfl
                exact want_no rfl rfl (.inl eg) (hK _ w1 (Ext.refl _) rfl)
              | 24, ho =>
                obtain rfl := Option.some.inj ho
                obtain ⟨vg, gg, eg⟩ := hdep 16 rfl
                have gg : vg = .bool false := gg
                subst gg
                have eg := eg 38 rfl
                exact want_no rfl rfl (.inl eg) (hK _ w1 (Ext.refl _) rfl)
              | 25, ho =>
                obtain rfl := Option.some.inj ho
                obtain ⟨vg, gg, eg⟩ := hdep 16 rfl
                have gg : vg = .bool false := gg
                subst gg
                have eg := eg 38 rfl
                exact want_no rfl rfl (.inl eg) (hK _ w1 (Ext.refl _) rfl)
              | 26, ho =>
                obtain rfl := Option.some.inj ho
                obtain ⟨v38, g38, e38⟩ := hdep 16 rfl
                have g38 : v38 = .bool false := g38
                subst g38
                have e38 := e38 38 rfl
                obtain ⟨v47, g47, e47⟩ := hdep 25 rfl
                have g47 : v47 = undef := g47
                subst g47
                have e47 := e47 47 rfl
                refine want_none rfl ?_
                exact op_run (by unfold execOp; simp [e38, e47, Act.eval, go_sem]) (hK _ w1 (Ext.refl _) rfl)
              | i + 27, ho => cases ho
            · intro V w9 hx hg
              have g0 : V 0 = .slice (some ⟨bq, oq, none⟩) m.length cq := hg 0 (by decide)
              have g1 : V 1 = .int .i64 (ni : Int) := hg 1 (by decide)
              have g2 : V 2 = .pointer (some ⟨bq, oq + ni * 17, none⟩) := hg 2 (by decide)
              have g3 : V 3 = .agg x.cells.toArray := hg 3 (by decide)
              have g5 : V 5 = .agg n.cells.toArray := hg 5 (by decide)
              have g6 : V 6 = .bool false := hg 6 (by decide)
              have g7 : V 7 = .bool false := hg 7 (by decide)
              have g8 : V 8 = undef := hg 8 (by decide)
              have g9 : V 9 = undef := hg 9 (by decide)
              have g10 : V 10 = undef := hg 10 (by decide)
              have g11 : V 11 = undef := hg 11 (by decide)
              have g12 : V 12 = undef := hg 12 (by decide)
              have g13 : V 13 = undef := hg 13 (by decide)
              have g14 : V 14 = undef := hg 14 (by decide)
              have g15 : V 15 = .bool false := hg 15 (by decide)
              have g16 : V 16 = .bool false := hg 16 (by decide)
              have g17 : V 17 = undef := hg 17 (by decide)
              have g18 : V 18 = undef := hg 18 (by decide)
              have g19 : V 19 = undef := hg 19 (by decide)
              have g20 : V 20 = undef := hg 20 (by decide)
              have g21 : V 21 = undef := hg 21 (by decide)
              have g22 : V 22 = undef := hg 22 (by decide)
              have g23 : V 23 = undef := hg 23 (by decide)
              have g24 : V 24 = undef := hg 24 (by decide)
              have g25 : V 25 = undef := hg 25 (by decide)
              have g26 : V 26 = .bool false := hg 26 (by decide)
              have g4 := hg 4 (by decide)
              simp only [List.length_cons, List.length_nil, fillAllN, dstOf, Act.put, List.getElem?_toArray, List.getElem?_cons_zero, List.getElem?_cons_succ, Option.bind_some, g0, g1, g2, g3, g5, g6, g7, g8, g9, g10, g11, g12, g13, g14, g15, g16, g17, g18, g19, g20, g21, g22, g23, g24, g25, g26, List.setIfInBounds_toArray, List.set_cons_zero, List.set_cons_succ]
              clear g0 g1 g2 g3 g5 g6 g7 g8 g9 g10 g11 g12 g13 g14 g15 g16 g17 g18 g19 g20 g21 g22 g23 g24 g25 g26 hg
              have HX9 := Lib.hid hx
              clear hx hn1 hn2 hn3
              go_wp2_with fail
              go_roundw
              case rel => exact ⟨nk + 1, by go_num, by omega, HNX.out, HXK.out.trans HX9.out⟩
              case measure => simp [intOf]; omega
        · obtain rfl : nk = m.length := by omega
          have HPN := Lib.hid (PairB.row HPK.out)
          go_wp2_with fail
          go_roundw
          case rel => exact ⟨ni + 1, by go_num, by omega, HPN.out, HXK.out⟩
          case measure => simp [intOf]; omega
    · obtain rfl : ni = m.length := by omega
      go_wp2_with fail
      go_ret
      exact ⟨false, rfl, ⟨fun h => (by cases h), fun h => absurd h (HNO.out HP.out)⟩, HX1.out.trans HX.out⟩
end Go.Proofs.YtcfebfblmmbeaaaDoor
