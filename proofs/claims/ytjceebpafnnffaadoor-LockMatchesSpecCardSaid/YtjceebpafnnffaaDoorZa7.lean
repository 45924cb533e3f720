/- Contract of the program's Take. · Contract of the program's Free; Take's in one. · Contract of the program's Valid. · Contract of the reference's Valid. · A plain law: the reference's Check is the program's. · Plain laws of the tables of locks: what valid means, for the program and the reference alike. · Plain laws of the tables of locks: Take and Free of the program and of the reference agree, and keep a table valid. · Plain laws of the tables of locks: owners; what a lock adds; what its freeing takes away. · Contracts of the laws' own helpers: take, free. · Contract of the laws' sanity example. · LockValidMatchesSpec, walked; the laws' own 'few'. -/
import Derived.Test.YtjceebpafnnffaaDoorZa6
namespace Go.Proofs.YtjceebpafnnffaaDoor
open Go Go.RowKit

/-- The table is in order. -/
def SortedL (ls : List Lk) : Prop := ls.Pairwise fun a b => befL a b = true
theorem cmpI_lt {a b : Int} : cmpI a b < 0 ↔ a < b := by
  unfold cmpI; split
  · simp [*]
  · split <;> simp <;> omega
theorem cmpI_eq {a b : Int} : cmpI a b = 0 ↔ a = b := by
  unfold cmpI; split
  · simp; omega
  · split <;> simp <;> omega
theorem cmpL_lt (a b : Lk) : cmpL a b < 0 ↔ befL a b = true := by
  have h1 := @cmpI_lt a.site b.site
  have h2 := @cmpI_eq a.site b.site
  have h3 := @cmpI_lt a.seq b.seq
  unfold cmpL orI befL
  simp only [Bool.or_eq_true, Bool.and_eq_true, decide_eq_true_eq]
  split <;> rename_i hq
  · have hq2 : cmpI a.site b.site = 0 := by simpa using hq
    omega
  · have hq2 : ¬ cmpI a.site b.site = 0 := by simpa using hq
    omega
theorem cmpL_eq (a b : Lk) : cmpL a b = 0 ↔ a.site = b.site ∧ a.seq = b.seq := by
  have h2 := @cmpI_eq a.site b.site
  have h3 := @cmpI_eq a.seq b.seq
  unfold cmpL orI
  split <;> rename_i hq
  · have hq2 : cmpI a.site b.site = 0 := by simpa using hq
    omega
  · have hq2 : ¬ cmpI a.site b.site = 0 := by simpa using hq
    omega
theorem befL_trans {a b c : Lk} (h : befL a b = true) (k : befL b c = true) : befL a c = true := by
  unfold befL at *
  simp only [Bool.or_eq_true, Bool.and_eq_true, decide_eq_true_eq] at *
  omega
def posP (lv : List Lk) (m : Lk) : Nat := lv.findIdx fun y => decide (0 ≤ cmpL y m)
def hitP (lv : List Lk) (m : Lk) : Bool := match lv[posP lv m]? with | some y => decide (cmpL y m = 0) | none => false
theorem bsPos_rows (lv : List Lk) (m : Lk) : bsPos (fun r => cmpL (ofRow r) m) (rowsL lv) = posP lv m := by
  unfold bsPos posP rowsL
  rw [List.findIdx_map]
  rfl
theorem bsHit_rows (lv : List Lk) (m : Lk) : bsHit (fun r => cmpL (ofRow r) m) (rowsL lv) = hitP lv m := by
  unfold bsHit hitP
  rw [bsPos_rows]
  unfold rowsL
  rw [List.getElem?_map]
  cases lv[posP lv m]? <;> rfl
theorem own_block_lt {w : World} {base n k : Nat} {e : TypeId} {v : Value} {zs : List Value} (h : w.ownsRow base e k v n zs) (b : Nat) (hb : v.ownBlock = some b) : b < w.heap.size := by
  rcases h.2 with ⟨rfl, _⟩ | ⟨g, cap, cur, rfl, _, hg, _⟩
  · simp [Value.ownBlock] at hb
  · simp only [Value.ownBlock, Option.some.injEq] at hb
    subst hb
    exact (Array.getElem?_eq_some_iff.1 hg).1
theorem posP_le (lv : List Lk) (m : Lk) : posP lv m ≤ lv.length := List.findIdx_le_length
/-- The binary search among locks. -/
theorem SearchL (A : Option Addr) (c : Nat) (lv : List Lk) (m : Lk) (w : World) (hs : Sv w w.heap.size 9 A c (rowsL lv)) (hb : lv.length ≤ 1000000) (ho : SortedL lv) :
    Calls Tryd.prog 32 #[.slice A lv.length c, .agg #[.int .i64 m.site, .int .i64 m.seq, .int .i64 m.til, .int .i64 m.box.lo.x, .int .i64 m.box.lo.y, .int .i64 m.box.lo.z, .int .i64 m.box.hi.x, .int .i64 m.box.hi.y, .int .i64 m.box.hi.z], .func (.func 33) #[] #[]] w fun e w' =>
      e = .returned (.tuple #[.int .i64 (posP lv m : Int), .bool (hitP lv m)]) ∧ Ext w w' := by
  have h := BinSearchLk A c (rowsL lv) w hs (.int .i64 m.site) (.int .i64 m.seq) (.int .i64 m.til) (.int .i64 m.box.lo.x) (.int .i64 m.box.lo.y) (.int .i64 m.box.lo.z) (.int .i64 m.box.hi.x) (.int .i64 m.box.hi.y) (.int .i64 m.box.hi.z)
    33 #[] (fun r => cmpL (ofRow r) m)
    ⟨fun _ _ => by kernel_rfl, fun r hr w' _ => by
      obtain ⟨y, _, rfl⟩ := List.mem_map.1 hr
      exact compareL_any y m w'⟩
    (by rw [rowsL_length]; exact hb)
    (fun i j x y hij hx hy hc => by
      unfold rowsL at hx hy
      rw [List.getElem?_map] at hx hy
      obtain ⟨x', hx', rfl⟩ := Option.map_eq_some_iff.1 hx
      obtain ⟨y', hy', rfl⟩ := Option.map_eq_some_iff.1 hy
      simp only [ofRow_cells] at hc ⊢
      rw [cmpL_lt] at hc ⊢
      obtain ⟨h1, rfl⟩ := List.getElem?_eq_some_iff.1 hx'
      obtain ⟨h2, rfl⟩ := List.getElem?_eq_some_iff.1 hy'
      exact befL_trans (List.pairwise_iff_getElem.1 ho i j h1 h2 hij) hc)
  rw [bsPos_rows, bsHit_rows, rowsL_length] at h
  exact h

def isE (x : Ed) (k : Int) : Bool := decide (x.kind = k) && decide (checkE x 14 1 = 0)
def takeP (ls : List Lk) (x : Ed) : List Lk × Int :=
  if isE x 7 then
    (if hitP (ls.filter (livesL x.st.tick)) (moreE x) then ([], 10)
     else if (ls.filter (livesL x.st.tick)).any (fun y => oddL y (moreE x).site (moreE x).box) then ([], 11)
     else if 16 ≤ ((ls.filter (livesL x.st.tick)).filter (fun y => ownL y (moreE x).site)).length then ([], 2)
     else (insL (ls.filter (livesL x.st.tick)) (posP (ls.filter (livesL x.st.tick)) (moreE x)) (moreE x), 0))
  else ([], 1)
set_option maxRecDepth 100000 in
set_option maxHeartbeats 4000000 in
theorem LTake_bad (A : Option Addr) (c : Nat) (ls : List Lk) (x : Ed) (w : World) (hR : RowsIn w) (h : isE x 7 = false) :
    Calls Tryd.prog 11 #[.slice A ls.length c, .agg #[.int .i64 x.st.tick, .int .i64 x.st.clock, .int .i64 x.st.site, .int .i64 x.st.seq, .int .i64 x.kind, .int .i64 x.box.lo.x, .int .i64 x.box.lo.y, .int .i64 x.box.lo.z, .int .i64 x.box.hi.x, .int .i64 x.box.hi.y, .int .i64 x.box.hi.z, .int .i64 x.at_.x, .int .i64 x.at_.y, .int .i64 x.at_.z, .int .i64 x.turn, .int .i64 x.cell, .int .i64 x.size]] w (RetT [] 1 w) := by
  have HC := Lib.hid (fun (w' : World) (hx : Ext w w') => is_any x 7 w' (hR.ext hx))
  unfold isE at h
  rw [h] at HC
  clear h hR
  go_enter Tryd.func11, Tryd.ntmps11
  go_upto_region 1 with fail
  obtain ⟨W0, hW⟩ : ∃ W, W = w.alloc (.cells #[.int .i64 x.st.tick, .int .i64 x.st.clock, .int .i64 x.st.site, .int .i64 x.st.seq, .int .i64 x.kind, .int .i64 x.box.lo.x, .int .i64 x.box.lo.y, .int .i64 x.box.lo.z, .int .i64 x.box.hi.x, .int .i64 x.box.hi.y, .int .i64 x.box.hi.z, .int .i64 x.at_.x, .int .i64 x.at_.y, .int .i64 x.at_.z, .int .i64 x.turn, .int .i64 x.cell, .int .i64 x.size] 30) := ⟨_, rfl⟩
  have hx0 : Ext w W0 := by rw [hW]; exact (Ext.refl w).alloc _
  have B0 : Arr W0 w.heap.size 30 [.int .i64 x.st.tick, .int .i64 x.st.clock, .int .i64 x.st.site, .int .i64 x.st.seq, .int .i64 x.kind, .int .i64 x.box.lo.x, .int .i64 x.box.lo.y, .int .i64 x.box.lo.z, .int .i64 x.box.hi.x, .int .i64 x.box.hi.y, .int .i64 x.box.hi.z, .int .i64 x.at_.x, .int .i64 x.at_.y, .int .i64 x.at_.z, .int .i64 x.turn, .int .i64 x.cell, .int .i64 x.size] := by rw [hW]; exact Arr.new w _ _
  rw [← hW]
  clear hW
  have cB0 := B0.cell
  have fB0 := B0.frozen
  have lB0 := B0.lt
  go_wp2_with (first | (refine wpList_load_blk 30 (.tmp 3) rfl rfl B0 rfl _ Tryd.underlying30 rfl (by kernel_rfl) ?_) | (refine wpList_load_blk 30 (.tmp 3) rfl rfl (B0.alloc _) rfl _ Tryd.underlying30 rfl (by kernel_rfl) ?_) | (refine wpList_load_blk 30 (.tmp 3) rfl rfl ((B0.alloc _).alloc _) rfl _ Tryd.underlying30 rfl (by kernel_rfl) ?_))
  refine (HC.out _ (by repeat (first | with_reducible exact Ext.refl _ | with_reducible assumption | with_reducible refine Ext.alloc ?_ _ | with_reducible refine Ext.drew ?_ | (with_reducible refine Ext.setCell ?_ ?_ _; rotate_left; focus (first | (simp; done) | (simp; omega) | omega)) | (with_reducible refine Ext.setRow ?_ ?_ _; rotate_left; focus (first | (simp; done) | (simp; omega) | omega)) | with_reducible refine Ext.trans ?_ (by with_reducible assumption)))).mono ?_
  rintro e wx ⟨rfl, xx⟩
  go_wp2
  go_ret2
  exact RetT.none_ 1 (by repeat (first | with_reducible exact Ext.refl _ | with_reducible assumption | with_reducible refine Ext.alloc ?_ _ | with_reducible refine Ext.drew ?_ | (with_reducible refine Ext.setCell ?_ ?_ _; rotate_left; focus (first | (simp; done) | (simp; omega) | omega)) | (with_reducible refine Ext.setRow ?_ ?_ _; rotate_left; focus (first | (simp; done) | (simp; omega) | omega)) | with_reducible refine Ext.trans ?_ (by with_reducible assumption)))
set_option maxRecDepth 100000 in
set_option maxHeartbeats 8000000 in
theorem LTake_ok (A : Option Addr) (c : Nat) (ls : List Lk) (x : Ed) (w : World) (hs : Sv w w.heap.size 9 A c (rowsL ls)) (hb : ls.length ≤ 1000000) (hR : RowsIn w) (hO : SortedL ls) (h : isE x 7 = true) :
    Calls Tryd.prog 11 #[.slice A ls.length c, .agg #[.int .i64 x.st.tick, .int .i64 x.st.clock, .int .i64 x.st.site, .int .i64 x.st.seq, .int .i64 x.kind, .int .i64 x.box.lo.x, .int .i64 x.box.lo.y, .int .i64 x.box.lo.z, .int .i64 x.box.hi.x, .int .i64 x.box.hi.y, .int .i64 x.box.hi.z, .int .i64 x.at_.x, .int .i64 x.at_.y, .int .i64 x.at_.z, .int .i64 x.turn, .int .i64 x.cell, .int .i64 x.size]] w (RetT (takeP ls x).1 (takeP ls x).2 w) := by
  have HC := Lib.hid (fun (w' : World) (hx : Ext w w') => is_any x 7 w' (hR.ext hx))
  have HF := Lib.hid (show takeP ls x = (if hitP (ls.filter (livesL x.st.tick)) (moreE x) then ([], 10)
     else if (ls.filter (livesL x.st.tick)).any (fun y => oddL y (moreE x).site (moreE x).box) then ([], 11)
     else if 16 ≤ ((ls.filter (livesL x.st.tick)).filter (fun y => ownL y (moreE x).site)).length then ([], 2)
     else (insL (ls.filter (livesL x.st.tick)) (posP (ls.filter (livesL x.st.tick)) (moreE x)) (moreE x), 0)) from by unfold takeP; rw [h]; rfl)
  have HE := Lib.hid (fun (w' : World) (hx : Ext w w') => Expire_any A c ls w' (hs.ext hx) hb x.st.tick)
  have hfl := filter_len (livesL x.st.tick) ls
  have HSO := Lib.hid (show SortedL (ls.filter (livesL x.st.tick)) from List.Pairwise.filter _ hO)
  generalize ls.filter (livesL x.st.tick) = lv at HF HE hfl HSO
  obtain ⟨R, hRR⟩ : ∃ R, R = takeP ls x := ⟨_, rfl⟩
  rw [← hRR]
  have HR := Lib.hid (hRR.trans HF.out)
  unfold isE at h
  rw [h] at HC
  clear hRR HF h hs hR hO
  go_enter Tryd.func11, Tryd.ntmps11
  go_upto_region 1 with fail
  obtain ⟨W0, hW⟩ : ∃ W, W = w.alloc (.cells #[.int .i64 x.st.tick, .int .i64 x.st.clock, .int .i64 x.st.site, .int .i64 x.st.seq, .int .i64 x.kind, .int .i64 x.box.lo.x, .int .i64 x.box.lo.y, .int .i64 x.box.lo.z, .int .i64 x.box.hi.x, .int .i64 x.box.hi.y, .int .i64 x.box.hi.z, .int .i64 x.at_.x, .int .i64 x.at_.y, .int .i64 x.at_.z, .int .i64 x.turn, .int .i64 x.cell, .int .i64 x.size] 30) := ⟨_, rfl⟩
  have hx0 : Ext w W0 := by rw [hW]; exact (Ext.refl w).alloc _
  have B0 : Arr W0 w.heap.size 30 [.int .i64 x.st.tick, .int .i64 x.st.clock, .int .i64 x.st.site, .int .i64 x.st.seq, .int .i64 x.kind, .int .i64 x.box.lo.x, .int .i64 x.box.lo.y, .int .i64 x.box.lo.z, .int .i64 x.box.hi.x, .int .i64 x.box.hi.y, .int .i64 x.box.hi.z, .int .i64 x.at_.x, .int .i64 x.at_.y, .int .i64 x.at_.z, .int .i64 x.turn, .int .i64 x.cell, .int .i64 x.size] := by rw [hW]; exact Arr.new w _ _
  rw [← hW]
  clear hW
  have cB0 := B0.cell
  have fB0 := B0.frozen
  have lB0 := B0.lt
  go_wp2_with (first | (refine wpList_load_blk 30 (.tmp 3) rfl rfl B0 rfl _ Tryd.underlying30 rfl (by kernel_rfl) ?_) | (refine wpList_load_blk 30 (.tmp 3) rfl rfl (B0.alloc _) rfl _ Tryd.underlying30 rfl (by kernel_rfl) ?_) | (refine wpList_load_blk 30 (.tmp 3) rfl rfl ((B0.alloc _).alloc _) rfl _ Tryd.underlying30 rfl (by kernel_rfl) ?_))
  refine (HC.out _ (by repeat (first | with_reducible exact Ext.refl _ | with_reducible assumption | with_reducible refine Ext.alloc ?_ _ | with_reducible refine Ext.drew ?_ | (with_reducible refine Ext.setCell ?_ ?_ _; rotate_left; focus (first | (simp; done) | (simp; omega) | omega)) | (with_reducible refine Ext.setRow ?_ ?_ _; rotate_left; focus (first | (simp; done) | (simp; omega) | omega)) | with_reducible refine Ext.trans ?_ (by with_reducible assumption)))).mono ?_
  rintro e wx ⟨rfl, xx⟩
  have B0 := Arr.ext (w' := wx) B0 xx
  have cB0 := B0.cell
  have hx1 : Ext w wx := (by repeat (first | with_reducible exact Ext.refl _ | with_reducible assumption | with_reducible refine Ext.alloc ?_ _ | with_reducible refine Ext.drew ?_ | (with_reducible refine Ext.setCell ?_ ?_ _; rotate_left; focus (first | (simp; done) | (simp; omega) | omega)) | (with_reducible refine Ext.setRow ?_ ?_ _; rotate_left; focus (first | (simp; done) | (simp; omega) | omega)) | with_reducible refine Ext.trans ?_ (by with_reducible assumption)))
  go_wp2_with fail
  refine (HE.out _ hx1).mono ?_
  rintro e wE ⟨A', c', rfl, ho, xx2⟩
  simp only [rowsL_length] at ho
  try simp only [rowsL_length]
  have HB := Lib.hid (Arr.ext (w' := wE) B0 xx2)
  have cB0 := HB.out.cell
  have lB0 := HB.out.lt
  have HX1 := Lib.hid (hx1.trans xx2)
  have HO := Lib.hid ho
  have hxE := xx2.size
  have HXE := Lib.hid (hx1.size)
  have B4 := Arr.new wE 52 [.int .i64 0, .int .i64 0, .int .i64 0, .int .i64 0, .int .i64 0, .int .i64 0, .int .i64 0, .int .i64 0, .int .i64 0]
  have B5 : Arr ((wE.alloc (.cells #[.int .i64 0, .int .i64 0, .int .i64 0, .int .i64 0, .int .i64 0, .int .i64 0, .int .i64 0, .int .i64 0, .int .i64 0] 52)).setRow wE.heap.size #[.int .i64 (moreE x).site, .int .i64 (moreE x).seq, .int .i64 (moreE x).til, .int .i64 (moreE x).box.lo.x, .int .i64 (moreE x).box.lo.y, .int .i64 (moreE x).box.lo.z, .int .i64 (moreE x).box.hi.x, .int .i64 (moreE x).box.hi.y, .int .i64 (moreE x).box.hi.z]) wE.heap.size 52 (moreE x).cells := B4.setRow [.int .i64 (moreE x).site, .int .i64 (moreE x).seq, .int .i64 (moreE x).til, .int .i64 (moreE x).box.lo.x, .int .i64 (moreE x).box.lo.y, .int .i64 (moreE x).box.lo.z, .int .i64 (moreE x).box.hi.x, .int .i64 (moreE x).box.hi.y, .int .i64 (moreE x).box.hi.z]
  have hX2 : Ext wE ((wE.alloc (.cells #[.int .i64 0, .int .i64 0, .int .i64 0, .int .i64 0, .int .i64 0, .int .i64 0, .int .i64 0, .int .i64 0, .int .i64 0] 52)).setRow wE.heap.size #[.int .i64 (moreE x).site, .int .i64 (moreE x).seq, .int .i64 (moreE x).til, .int .i64 (moreE x).box.lo.x, .int .i64 (moreE x).box.lo.y, .int .i64 (moreE x).box.lo.z, .int .i64 (moreE x).box.hi.x, .int .i64 (moreE x).box.hi.y, .int .i64 (moreE x).box.hi.z]) := ((Ext.refl wE).alloc _).setRow (Nat.le_refl _) _
  have hS := (Sv.of_own ho (rowsL_rwk lv) (rowsL_length lv)).ext hX2
  have HSR := Lib.hid (SearchL A' c' lv (moreE x) _ hS (by omega) HSO.out)
  have HB5 := Lib.hid B5
  have HX2 := Lib.hid hX2
  have HS := Lib.hid hS
  clear B5 hX2 hS xx xx2 ho B0 HE HC fB0
  go_wp2_with (first | (refine wpList_load_part 28 (.tmp 26) rfl rfl HB.out 5 [.int .i64 x.box.lo.x, .int .i64 x.box.lo.y, .int .i64 x.box.lo.z, .int .i64 x.box.hi.x, .int .i64 x.box.hi.y, .int .i64 x.box.hi.z] rfl rfl _ Tryd.underlying28 rfl (by kernel_rfl) ?_) | (refine wpList_load_part 28 (.tmp 26) rfl rfl (HB.out.alloc _) 5 [.int .i64 x.box.lo.x, .int .i64 x.box.lo.y, .int .i64 x.box.lo.z, .int .i64 x.box.hi.x, .int .i64 x.box.hi.y, .int .i64 x.box.hi.z] rfl rfl _ Tryd.underlying28 rfl (by kernel_rfl) ?_) | (refine wpList_store_blk 52 (.tmp 7) (.tmp 28) rfl rfl B4 [.int .i64 (moreE x).site, .int .i64 (moreE x).seq, .int .i64 (moreE x).til, .int .i64 (moreE x).box.lo.x, .int .i64 (moreE x).box.lo.y, .int .i64 (moreE x).box.lo.z, .int .i64 (moreE x).box.hi.x, .int .i64 (moreE x).box.hi.y, .int .i64 (moreE x).box.hi.z] rfl rfl (by kernel_rfl) rfl rfl ?_) | (refine wpList_load_blk 52 (.tmp 7) rfl rfl HB5.out rfl _ Tryd.underlying52 rfl (by kernel_rfl) ?_))
  refine HSR.out.mono ?_
  rintro e wS ⟨rfl, hxS⟩
  have HXS := Lib.hid (HX1.out.trans (HX2.out.trans hxS))
  have HSS := Lib.hid (HS.out.ext hxS)
  have HB6 := Lib.hid (HB5.out.ext hxS)
  have HOS := Lib.hid (own_ext (own_mono (own_ext HO.out HX2.out) (Nat.le_refl _)) hxS)
  have hXES := (HX2.out.trans hxS).size
  have hbm := HB5.out.lt
  clear hxS
  cases hh : hitP lv (moreE x)
  · have HH := Lib.hid hh
    clear hh
    have hp := predL (g := 35) (fa := #[]) (lb := #[.pointer (some ⟨wE.heap.size, 0, none⟩)]) (fun y => oddL y (moreE x).site (moreE x).box) lv wS (fun _ _ => by kernel_rfl) (fun y _ w' hw => Take1_any y (moreE x) wE.heap.size w' (HB6.out.ext hw))
    have HCO := Lib.hid (ContainsL A' c' lv wS HSS.out _ _ _ (fun y => oddL y (moreE x).site (moreE x).box) hp)
    clear hp
    go_wp2_with fail
    refine HCO.out.mono ?_
    rintro e wC ⟨rfl, hxC⟩
    have HXC := Lib.hid (HXS.out.trans hxC)
    have HSC := Lib.hid (HSS.out.ext hxC)
    have HB7 := Lib.hid (HB6.out.ext hxC)
    have HOC := Lib.hid (own_ext HOS.out hxC)
    have hXEC := hxC.size
    clear hxC
    cases ha : lv.any (fun y => oddL y (moreE x).site (moreE x).box)
    · have HA := Lib.hid ha
      clear ha
      have hp := predL (g := 38) (fa := #[]) (lb := #[.pointer (some ⟨wE.heap.size, 0, none⟩)]) (fun y => ownL y (moreE x).site) lv wC (fun _ _ => by kernel_rfl) (fun y _ w' hw => Take2_any y (moreE x) wE.heap.size w' (HB7.out.ext hw))
      have hw := whereLk A' c' (rowsL lv) wC HSC.out (by rw [rowsL_length]; omega) _ _ _ _ hp
      rw [rowsL_filter (fun y => ownL y (moreE x).site) lv, rowsL_length] at hw
      have HW := Lib.hid hw
      have hfl2 := filter_len (fun y => ownL y (moreE x).site) lv
      clear hp hw
      go_wp2_with fail
      refine HW.out.mono ?_
      rintro e wW ⟨A3, c3, rfl, _, hxW⟩
      have HXW := Lib.hid (HXC.out.trans hxW)
      have HB8 := Lib.hid (HB7.out.ext hxW)
      have HOW := Lib.hid (own_ext HOC.out hxW)
      have hXEW := hxW.size
      clear hxW
      rw [rowsL_length]
      by_cases h16 : 16 ≤ (lv.filter (fun y => ownL y (moreE x).site)).length
      · have HR2 := Lib.hid (show R = ([], 2) from by rw [HR.out, if_neg (by rw [HH.out]; simp), if_neg (by rw [HA.out]; simp), if_pos h16])
        generalize (lv.filter (fun y => ownL y (moreE x).site)).length = nn at h16 hfl2 ⊢
        go_wp2
        go_ret2
        rw [HR2.out]
        exact RetT.none_ 2 HXW.out
      · have HR2 := Lib.hid (show R = (insL lv (posP lv (moreE x)) (moreE x), 0) from by rw [HR.out, if_neg (by rw [HH.out]; simp), if_neg (by rw [HA.out]; simp), if_neg h16])
        have h16b : (lv.filter (fun y => ownL y (moreE x).site)).length < 16 := by omega
        clear h16
        generalize (lv.filter (fun y => ownL y (moreE x).site)).length = nn at h16b hfl2 ⊢
        have hpl := posP_le lv (moreE x)
        have hnb : (Value.slice A' lv.length c').ownBlock ≠ some wW.heap.size := by
          intro he
          have h1 := own_block_lt HOW.out _ he
          omega
        have HIN := Lib.hid (fun (W : World) (hx : Ext wW W) (vb : Nat) (hv : Arr W vb 52 (moreE x).cells) (hne : (Value.slice A' lv.length c').ownBlock ≠ some vb) =>
          Insert_anyLk (.slice A' lv.length c') wx.heap.size (rowsL lv) W (by have h2 := own_ext HOW.out hx; rw [← rowsL_length lv] at h2 ⊢; exact h2) (rowsL_rws lv) (by rw [rowsL_length]; omega) (by have := hx.size; omega) (posP lv (moreE x)) (by rw [rowsL_length]; exact hpl)
            (moreE x).site (moreE x).seq (moreE x).til (moreE x).box.lo.x (moreE x).box.lo.y (moreE x).box.lo.z (moreE x).box.hi.x (moreE x).box.hi.y (moreE x).box.hi.z vb hne hv)
        have HNB := Lib.hid hnb
        have hxa : Ext wW (wW.alloc (.cells (moreE x).cells.toArray 52)) := (Ext.refl wW).alloc _
        have HXA := Lib.hid hxa
        clear hnb hpl hxa
        go_wp2_with (first
          | (refine wpList_load_blk 52 (.tmp 7) rfl rfl HB8.out rfl _ Tryd.underlying52 rfl (by kernel_rfl) ?_)
          | (refine wpList_buildRow rfl 22 52 49 rfl 9 (by decide) (by decide) (moreE x).cells rfl rfl Tryd.underlying22 (by kernel_rfl) (by kernel_rfl) ?_))
        refine (HIN.out _ HXA.out wW.heap.size (Arr.new wW _ _) HNB.out).mono ?_
        rintro e wI ⟨v, rfl, hoI, hgI⟩
        have e3 : insAt (rowsL lv) (posP lv (moreE x)) (moreE x).cells = rowsL (insL lv (posP lv (moreE x)) (moreE x)) := by unfold insAt insL rowsL; simp [List.map_take, List.map_drop]
        have e4 : rowLk (moreE x).site (moreE x).seq (moreE x).til (moreE x).box.lo.x (moreE x).box.lo.y (moreE x).box.lo.z (moreE x).box.hi.x (moreE x).box.hi.y (moreE x).box.hi.z = (moreE x).cells := rfl
        rw [e4, e3] at hoI
        obtain ⟨A9, c9, rfl, _, _⟩ := own_form hoI
        have HOI := Lib.hid hoI
        have HXI := Lib.hid ((HXW.out.trans HXA.out).grown hgI (fun b hb => by have h1 := own_low HOW.out b hb; have h2 := HXE.out; omega))
        clear hoI hgI e3 e4
        go_wp2
        go_ret2
        rw [HR2.out]
        refine ⟨A9, c9, ?_, ?_, HXI.out⟩
        · simp only [rowsL_length]; rfl
        · have h5 := own_mono HOI.out HXE.out
          simpa only [rowsL_length] using h5
    · have HR2 := Lib.hid (show R = ([], 11) from by rw [HR.out, if_neg (by rw [HH.out]; simp), if_pos ha])
      clear ha
      go_wp2
      go_ret2
      rw [HR2.out]
      exact RetT.none_ 11 HXC.out
  · have HR2 := Lib.hid (show R = ([], 10) from by rw [HR.out, if_pos hh])
    clear hh
    go_wp2
    go_ret2
    rw [HR2.out]
    exact RetT.none_ 10 HXS.out
end Go.Proofs.YtjceebpafnnffaaDoor

namespace Go.Proofs.YtjceebpafnnffaaDoor
open Go Go.RowKit

theorem LTake_any (A : Option Addr) (c : Nat) (ls : List Lk) (x : Ed) (w : World) (hs : Sv w w.heap.size 9 A c (rowsL ls)) (hb : ls.length ≤ 1000000) (hR : RowsIn w) (hO : SortedL ls) :
    Calls Tryd.prog 11 #[.slice A ls.length c, .agg #[.int .i64 x.st.tick, .int .i64 x.st.clock, .int .i64 x.st.site, .int .i64 x.st.seq, .int .i64 x.kind, .int .i64 x.box.lo.x, .int .i64 x.box.lo.y, .int .i64 x.box.lo.z, .int .i64 x.box.hi.x, .int .i64 x.box.hi.y, .int .i64 x.box.hi.z, .int .i64 x.at_.x, .int .i64 x.at_.y, .int .i64 x.at_.z, .int .i64 x.turn, .int .i64 x.cell, .int .i64 x.size]] w (RetT (takeP ls x).1 (takeP ls x).2 w) := by
  cases h : isE x 7
  · have e : takeP ls x = ([], 1) := by unfold takeP; rw [h]; rfl
    rw [e]
    exact LTake_bad A c ls x w hR h
  · exact LTake_ok A c ls x w hs hb hR hO h
def oldE (x : Ed) : Lk := ⟨x.st.site, x.size, 0, zeroBx⟩
def freeP (ls : List Lk) (x : Ed) : List Lk × Int :=
  if isE x 8 then
    (if hitP (ls.filter (livesL x.st.tick)) (oldE x) then ((ls.filter (livesL x.st.tick)).take (posP (ls.filter (livesL x.st.tick)) (oldE x)) ++ (ls.filter (livesL x.st.tick)).drop (posP (ls.filter (livesL x.st.tick)) (oldE x) + 1), 0) else ([], 9))
  else ([], 1)
theorem hitP_lt {lv : List Lk} {m : Lk} (h : hitP lv m = true) : posP lv m < lv.length := by
  unfold hitP at h
  cases hq : lv[posP lv m]? with
  | none => rw [hq] at h; simp at h
  | some y => exact (List.getElem?_eq_some_iff.1 hq).1
set_option maxRecDepth 100000 in
set_option maxHeartbeats 4000000 in
theorem LFree_bad (A : Option Addr) (c : Nat) (ls : List Lk) (x : Ed) (w : World) (hR : RowsIn w) (h : isE x 8 = false) :
    Calls Tryd.prog 13 #[.slice A ls.length c, .agg #[.int .i64 x.st.tick, .int .i64 x.st.clock, .int .i64 x.st.site, .int .i64 x.st.seq, .int .i64 x.kind, .int .i64 x.box.lo.x, .int .i64 x.box.lo.y, .int .i64 x.box.lo.z, .int .i64 x.box.hi.x, .int .i64 x.box.hi.y, .int .i64 x.box.hi.z, .int .i64 x.at_.x, .int .i64 x.at_.y, .int .i64 x.at_.z, .int .i64 x.turn, .int .i64 x.cell, .int .i64 x.size]] w (RetT [] 1 w) := by
  have HC := Lib.hid (fun (w' : World) (hx : Ext w w') => is_any x 8 w' (hR.ext hx))
  unfold isE at h
  rw [h] at HC
  clear h hR
  go_enter Tryd.func13, Tryd.ntmps13
  go_upto_region 1 with fail
  obtain ⟨W0, hW⟩ : ∃ W, W = w.alloc (.cells #[.int .i64 x.st.tick, .int .i64 x.st.clock, .int .i64 x.st.site, .int .i64 x.st.seq, .int .i64 x.kind, .int .i64 x.box.lo.x, .int .i64 x.box.lo.y, .int .i64 x.box.lo.z, .int .i64 x.box.hi.x, .int .i64 x.box.hi.y, .int .i64 x.box.hi.z, .int .i64 x.at_.x, .int .i64 x.at_.y, .int .i64 x.at_.z, .int .i64 x.turn, .int .i64 x.cell, .int .i64 x.size] 30) := ⟨_, rfl⟩
  have hx0 : Ext w W0 := by rw [hW]; exact (Ext.refl w).alloc _
  have B0 : Arr W0 w.heap.size 30 [.int .i64 x.st.tick, .int .i64 x.st.clock, .int .i64 x.st.site, .int .i64 x.st.seq, .int .i64 x.kind, .int .i64 x.box.lo.x, .int .i64 x.box.lo.y, .int .i64 x.box.lo.z, .int .i64 x.box.hi.x, .int .i64 x.box.hi.y, .int .i64 x.box.hi.z, .int .i64 x.at_.x, .int .i64 x.at_.y, .int .i64 x.at_.z, .int .i64 x.turn, .int .i64 x.cell, .int .i64 x.size] := by rw [hW]; exact Arr.new w _ _
  rw [← hW]
  clear hW
  have cB0 := B0.cell
  have fB0 := B0.frozen
  have lB0 := B0.lt
  go_wp2_with (first | (refine wpList_load_blk 30 (.tmp 3) rfl rfl B0 rfl _ Tryd.underlying30 rfl (by kernel_rfl) ?_) | (refine wpList_load_blk 30 (.tmp 3) rfl rfl (B0.alloc _) rfl _ Tryd.underlying30 rfl (by kernel_rfl) ?_) | (refine wpList_load_blk 30 (.tmp 3) rfl rfl ((B0.alloc _).alloc _) rfl _ Tryd.underlying30 rfl (by kernel_rfl) ?_))
  refine (HC.out _ (by repeat (first | with_reducible exact Ext.refl _ | with_reducible assumption | with_reducible refine Ext.alloc ?_ _ | with_reducible refine Ext.drew ?_ | (with_reducible refine Ext.setCell ?_ ?_ _; rotate_left; focus (first | (simp; done) | (simp; omega) | omega)) | (with_reducible refine Ext.setRow ?_ ?_ _; rotate_left; focus (first | (simp; done) | (simp; omega) | omega)) | with_reducible refine Ext.trans ?_ (by with_reducible assumption)))).mono ?_
  rintro e wx ⟨rfl, xx⟩
  go_wp2
  go_ret2
  exact RetT.none_ 1 (by repeat (first | with_reducible exact Ext.refl _ | with_reducible assumption | with_reducible refine Ext.alloc ?_ _ | with_reducible refine Ext.drew ?_ | (with_reducible refine Ext.setCell ?_ ?_ _; rotate_left; focus (first | (simp; done) | (simp; omega) | omega)) | (with_reducible refine Ext.setRow ?_ ?_ _; rotate_left; focus (first | (simp; done) | (simp; omega) | omega)) | with_reducible refine Ext.trans ?_ (by with_reducible assumption)))
set_option maxRecDepth 100000 in
set_option maxHeartbeats 8000000 in
theorem LFree_ok (A : Option Addr) (c : Nat) (ls : List Lk) (x : Ed) (w : World) (hs : Sv w w.heap.size 9 A c (rowsL ls)) (hb : ls.length ≤ 1000000) (hR : RowsIn w) (hO : SortedL ls) (h : isE x 8 = true) :
    Calls Tryd.prog 13 #[.slice A ls.length c, .agg #[.int .i64 x.st.tick, .int .i64 x.st.clock, .int .i64 x.st.site, .int .i64 x.st.seq, .int .i64 x.kind, .int .i64 x.box.lo.x, .int .i64 x.box.lo.y, .int .i64 x.box.lo.z, .int .i64 x.box.hi.x, .int .i64 x.box.hi.y, .int .i64 x.box.hi.z, .int .i64 x.at_.x, .int .i64 x.at_.y, .int .i64 x.at_.z, .int .i64 x.turn, .int .i64 x.cell, .int .i64 x.size]] w (RetT (freeP ls x).1 (freeP ls x).2 w) := by
  have HC := Lib.hid (fun (w' : World) (hx : Ext w w') => is_any x 8 w' (hR.ext hx))
  have HF := Lib.hid (show freeP ls x = (if hitP (ls.filter (livesL x.st.tick)) (oldE x) then ((ls.filter (livesL x.st.tick)).take (posP (ls.filter (livesL x.st.tick)) (oldE x)) ++ (ls.filter (livesL x.st.tick)).drop (posP (ls.filter (livesL x.st.tick)) (oldE x) + 1), 0) else ([], 9)) from by unfold freeP; rw [h]; rfl)
  have HE := Lib.hid (fun (w' : World) (hx : Ext w w') => Expire_any A c ls w' (hs.ext hx) hb x.st.tick)
  have hfl := filter_len (livesL x.st.tick) ls
  have HSO := Lib.hid (show SortedL (ls.filter (livesL x.st.tick)) from List.Pairwise.filter _ hO)
  generalize ls.filter (livesL x.st.tick) = lv at HF HE hfl HSO
  obtain ⟨R, hRR⟩ : ∃ R, R = freeP ls x := ⟨_, rfl⟩
  rw [← hRR]
  have HR := Lib.hid (hRR.trans HF.out)
  unfold isE at h
  rw [h] at HC
  clear hRR HF h hs hR hO
  go_enter Tryd.func13, Tryd.ntmps13
  go_upto_region 1 with fail
  obtain ⟨W0, hW⟩ : ∃ W, W = w.alloc (.cells #[.int .i64 x.st.tick, .int .i64 x.st.clock, .int .i64 x.st.site, .int .i64 x.st.seq, .int .i64 x.kind, .int .i64 x.box.lo.x, .int .i64 x.box.lo.y, .int .i64 x.box.lo.z, .int .i64 x.box.hi.x, .int .i64 x.box.hi.y, .int .i64 x.box.hi.z, .int .i64 x.at_.x, .int .i64 x.at_.y, .int .i64 x.at_.z, .int .i64 x.turn, .int .i64 x.cell, .int .i64 x.size] 30) := ⟨_, rfl⟩
  have hx0 : Ext w W0 := by rw [hW]; exact (Ext.refl w).alloc _
  have B0 : Arr W0 w.heap.size 30 [.int .i64 x.st.tick, .int .i64 x.st.clock, .int .i64 x.st.site, .int .i64 x.st.seq, .int .i64 x.kind, .int .i64 x.box.lo.x, .int .i64 x.box.lo.y, .int .i64 x.box.lo.z, .int .i64 x.box.hi.x, .int .i64 x.box.hi.y, .int .i64 x.box.hi.z, .int .i64 x.at_.x, .int .i64 x.at_.y, .int .i64 x.at_.z, .int .i64 x.turn, .int .i64 x.cell, .int .i64 x.size] := by rw [hW]; exact Arr.new w _ _
  rw [← hW]
  clear hW
  have cB0 := B0.cell
  have fB0 := B0.frozen
  have lB0 := B0.lt
  go_wp2_with (first | (refine wpList_load_blk 30 (.tmp 3) rfl rfl B0 rfl _ Tryd.underlying30 rfl (by kernel_rfl) ?_) | (refine wpList_load_blk 30 (.tmp 3) rfl rfl (B0.alloc _) rfl _ Tryd.underlying30 rfl (by kernel_rfl) ?_) | (refine wpList_load_blk 30 (.tmp 3) rfl rfl ((B0.alloc _).alloc _) rfl _ Tryd.underlying30 rfl (by kernel_rfl) ?_))
  refine (HC.out _ (by repeat (first | with_reducible exact Ext.refl _ | with_reducible assumption | with_reducible refine Ext.alloc ?_ _ | with_reducible refine Ext.drew ?_ | (with_reducible refine Ext.setCell ?_ ?_ _; rotate_left; focus (first | (simp; done) | (simp; omega) | omega)) | (with_reducible refine Ext.setRow ?_ ?_ _; rotate_left; focus (first | (simp; done) | (simp; omega) | omega)) | with_reducible refine Ext.trans ?_ (by with_reducible assumption)))).mono ?_
  rintro e wx ⟨rfl, xx⟩
  have B0 := Arr.ext (w' := wx) B0 xx
  have cB0 := B0.cell
  have hx1 : Ext w wx := (by repeat (first | with_reducible exact Ext.refl _ | with_reducible assumption | with_reducible refine Ext.alloc ?_ _ | with_reducible refine Ext.drew ?_ | (with_reducible refine Ext.setCell ?_ ?_ _; rotate_left; focus (first | (simp; done) | (simp; omega) | omega)) | (with_reducible refine Ext.setRow ?_ ?_ _; rotate_left; focus (first | (simp; done) | (simp; omega) | omega)) | with_reducible refine Ext.trans ?_ (by with_reducible assumption)))
  go_wp2_with fail
  refine (HE.out _ hx1).mono ?_
  rintro e wE ⟨A', c', rfl, ho, xx2⟩
  simp only [rowsL_length] at ho
  try simp only [rowsL_length]
  have HB := Lib.hid (Arr.ext (w' := wE) B0 xx2)
  have cB0 := HB.out.cell
  have lB0 := HB.out.lt
  have HX1 := Lib.hid (hx1.trans xx2)
  have HO := Lib.hid ho
  have hxE := xx2.size
  have HXE := Lib.hid (hx1.size)
  have hS := (Sv.of_own ho (rowsL_rwk lv) (rowsL_length lv))
  have HSR := Lib.hid (SearchL A' c' lv (oldE x) _ hS (by omega) HSO.out)
  clear hS xx xx2 ho B0 HE HC fB0
  go_wp2_with fail
  refine HSR.out.mono ?_
  rintro e wS ⟨rfl, hxS⟩
  have HXS := Lib.hid (HX1.out.trans hxS)
  have HOS := Lib.hid (own_ext HO.out hxS)
  have hXES := hxS.size
  clear hxS
  cases hh : hitP lv (oldE x)
  · have HR2 := Lib.hid (show R = ([], 9) from by rw [HR.out, if_neg (by rw [hh]; simp)])
    clear hh
    go_wp2
    go_ret2
    rw [HR2.out]
    exact RetT.none_ 9 HXS.out
  · have HR2 := Lib.hid (show R = (lv.take (posP lv (oldE x)) ++ lv.drop (posP lv (oldE x) + 1), 0) from by rw [HR.out, if_pos hh])
    have hlt := hitP_lt hh
    clear hh
    obtain ⟨g, rfl⟩ : ∃ g, A' = some ⟨g, 0, none⟩ := by
      rcases HO.out.2 with ⟨_, h2⟩ | ⟨g, cap, cur, hv, _⟩
      · omega
      · injection hv with hA; exact ⟨g, hA⟩
    have HD := Lib.hid (Delete_own g c' wx.heap.size lv wS (by have h2 := HOS.out; rw [← rowsL_length lv] at h2 ⊢; simpa only [rowsL_length] using h2) (posP lv (oldE x)) hlt (by omega))
    generalize posP lv (oldE x) = k at HD HR2 hlt
    go_wp2_with fail
    refine HD.out.mono ?_
    rintro e wD ⟨rfl, hoD, hgD⟩
    have HXD := Lib.hid (HXS.out.grown hgD (fun b hb => by have h1 := own_low HOS.out b hb; have h2 := HXE.out; omega))
    have HOD := Lib.hid hoD
    clear hoD hgD
    go_wp2
    go_ret2
    rw [HR2.out]
    refine ⟨some ⟨g, 0, none⟩, c', ?_, ?_, HXD.out⟩
    · first | rfl | simp
    · have h5 := own_mono HOD.out HXE.out
      simpa only [rowsL_length] using h5
theorem LFree_any (A : Option Addr) (c : Nat) (ls : List Lk) (x : Ed) (w : World) (hs : Sv w w.heap.size 9 A c (rowsL ls)) (hb : ls.length ≤ 1000000) (hR : RowsIn w) (hO : SortedL ls) :
    Calls Tryd.prog 13 #[.slice A ls.length c, .agg #[.int .i64 x.st.tick, .int .i64 x.st.clock, .int .i64 x.st.site, .int .i64 x.st.seq, .int .i64 x.kind, .int .i64 x.box.lo.x, .int .i64 x.box.lo.y, .int .i64 x.box.lo.z, .int .i64 x.box.hi.x, .int .i64 x.box.hi.y, .int .i64 x.box.hi.z, .int .i64 x.at_.x, .int .i64 x.at_.y, .int .i64 x.at_.z, .int .i64 x.turn, .int .i64 x.cell, .int .i64 x.size]] w (RetT (freeP ls x).1 (freeP ls x).2 w) := by
  cases h : isE x 8
  · have e : freeP ls x = ([], 1) := by unfold freeP; rw [h]; rfl
    rw [e]
    exact LFree_bad A c ls x w hR h
  · exact LFree_ok A c ls x w hs hb hR hO h
end Go.Proofs.YtjceebpafnnffaaDoor

namespace Go.Proofs.YtjceebpafnnffaaDoor
open Go Go.RowKit

def ordV (ls : List Lk) (k : Nat) (x : Lk) : Bool := match k with
  | 0 => true
  | n + 1 => match ls[n]? with | some y => decide (cmpL y x < 0) | none => true
def okV (ls : List Lk) (k : Nat) (x : Lk) : Bool := isLockB x && (ordV ls k x && (!((ls.take k).any (fun y => oddV y x)) && decide (((ls.take k).filter (fun y => ownL y x.site)).length < 16)))
def validP (ls : List Lk) : Bool := (List.range ls.length).all fun k => match ls[k]? with | some x => okV ls k x | none => true
theorem validP_iff (ls : List Lk) : validP ls = true ↔ ∀ (k : Nat) (x : Lk), ls[k]? = some x → okV ls k x = true := by
  unfold validP
  rw [List.all_eq_true]
  constructor
  · intro h k x hx
    have h1 := h k (List.mem_range.2 (List.getElem?_eq_some_iff.1 hx).1)
    rw [hx] at h1
    exact h1
  · intro h k hk
    rw [List.getElem?_eq_getElem (List.mem_range.1 hk)]
    exact h k _ (List.getElem?_eq_getElem _)
theorem validP_no {ls : List Lk} {k : Nat} {x : Lk} (hx : ls[k]? = some x) (h : okV ls k x = false) : validP ls = false := by
  cases hv : validP ls
  · rfl
  · rw [(validP_iff ls).1 hv k x hx] at h; cases h
theorem validP_yes {ls : List Lk} (h : ∀ (k : Nat) (x : Lk), k < ls.length → ls[k]? = some x → okV ls k x = true) : validP ls = true :=
  (validP_iff ls).2 fun k x hx => h k x (List.getElem?_eq_some_iff.1 hx).1 hx
theorem take_len (ls : List Lk) {k : Nat} (h : k ≤ ls.length) : (ls.take k).length = k := by rw [List.length_take]; omega

set_option maxRecDepth 100000 in
set_option maxHeartbeats 8000000 in
theorem LValid_any (A : Option Addr) (c : Nat) (ls : List Lk) (w : World) (hs : Sv w w.heap.size 9 A c (rowsL ls)) (hb : ls.length ≤ 1000000) (hW : WorldIn w) :
    Calls Tryd.prog 24 #[.slice A ls.length c] w fun e w' => e = .returned (.bool (validP ls)) ∧ Ext w w' := by
  have hm := mixed
  have hG := near_old
  have HS := Lib.hid hs; clear hs
  have HW := Lib.hid hW; clear hW
  have hle := HS.out.le
  have hmx := HS.out.max
  rw [rowsL_length] at hle
  unfold maxLen at hmx
  go_enter Tryd.func24, Tryd.ntmps24
  go_wp2
  go_loopw [9] (fun i wr => ∃ k : Nat, k ≤ ls.length ∧ i = .int .i64 k ∧ (∀ (i : Nat) (y : Lk), i < k → ls[i]? = some y → okV ls i y = true) ∧ Ext w wr) (fun i _ => ls.length - (intOf i).toNat)
  case atStart => exact ⟨0, Nat.zero_le _, rfl, fun i y hi => by omega, Ext.refl _⟩
  case round =>
    obtain ⟨k, hk, rfl, hno, hx⟩ := hrel
    have HNO := Lib.hid hno; clear hno
    by_cases hlt : k < ls.length
    · obtain ⟨x, hxk⟩ : ∃ x, ls[k]? = some x := ⟨_, List.getElem?_eq_getElem hlt⟩
      obtain ⟨b', off, rfl, hbl, hrow⟩ := lk_row (HS.out.ext hx) hxk
      have HX := Lib.hid hxk
      have HXX := Lib.hid hx
      have HRW := Lib.hid hrow
      have B4 := Arr.new wr 52 [.int .i64 0, .int .i64 0, .int .i64 0, .int .i64 0, .int .i64 0, .int .i64 0, .int .i64 0, .int .i64 0, .int .i64 0]
      clear hrow hxk hx
      go_wp2_with (first
        | (refine wpList_load_mid rfl 52 (.tmp 12) rfl b' (off + k * 9) rfl x.cells _ HRW.out Tryd.underlying52 rfl (by kernel_rfl) ?_)
        | (refine wpList_store_blk 52 (.tmp 4) (.tmp 13) rfl rfl B4 x.cells rfl rfl (by kernel_rfl) rfl rfl ?_))
      obtain ⟨W2, hW2⟩ : ∃ W, W = (wr.alloc (.cells #[.int .i64 0, .int .i64 0, .int .i64 0, .int .i64 0, .int .i64 0, .int .i64 0, .int .i64 0, .int .i64 0, .int .i64 0] 52)).setRow wr.heap.size x.cells.toArray := ⟨_, rfl⟩
      have B5 : Arr W2 wr.heap.size 52 x.cells := by rw [hW2]; exact B4.setRow x.cells
      have hX2 : Ext wr W2 := by rw [hW2]; exact ((Ext.refl wr).alloc _).setRow (Nat.le_refl _) _
      rw [← hW2]
      try simp only [Act.put]
      have HX2 := Lib.hid (HXX.out.trans hX2)
      have HB5 := Lib.hid B5
      have cB := B5.cell
      have lB := B5.lt
      unfold Lk.cells at cB
      have hsz2 := hX2.size
      have HIL := Lib.hid (fun (w' : World) (h : Ext W2 w') => isLock_any x w' (HW.out.ext (HX2.out.trans h)))
      have HWR := Lib.hid hX2
      clear hW2 hX2 B4 B5
      cases hI : isLockB x
      · rw [hI] at HIL
        have HV := Lib.hid (validP_no HX.out (by unfold okV; rw [hI]; rfl))
        clear hI
        go_wp2_with fail
        refine wp_region_near (by assumption) (by kernel_rfl) ?_
        repeat (go_big_quiet_step ((go_at_call 52; exact near_call (HIL.out _ (Ext.of_near ⟨⟨_, _⟩, rfl⟩)))))
        refine wpQuiet_nil ?_
        intro w1 hw1
        have hy := Ext.of_near hw1
        clear hw1
        go_wp2
        go_ret
        exact ⟨ret_bool HV.out.symm, HX2.out.trans hy⟩
      · rw [hI] at HIL
        have HI := Lib.hid hI
        clear hI
        by_cases hk0 : k = 0
        · have hd : decide ((0 : Int) < (k : Int)) = false := by simp [hk0]
          have hd2 : decide (0 < k) = false := by simp [hk0]
          have HOR := Lib.hid (show ordV ls k x = true from by rw [hk0]; rfl)
          clear hk0
          go_wp2_with fail
          refine wp_region_near (by assumption) (by kernel_rfl) ?_
          repeat (go_big_quiet_step ((go_at_call 52; exact near_call (HIL.out _ (Ext.of_near ⟨⟨_, _⟩, rfl⟩)))))
          refine wpQuiet_nil ?_
          intro w1 hw1
          have hy := Ext.of_near hw1
          clear hw1
          have HXT := Lib.hid (HX2.out.trans hy)
          have HST := Lib.hid ((HS.out.ext HXT.out).take k)
          have HBT := Lib.hid (HB5.out.ext hy)
          clear hy cB lB
          have hp := predL (g := 53) (fa := #[]) (lb := #[.pointer (some ⟨wr.heap.size, 0, none⟩)]) (fun y => oddV y x) (ls.take k) w1 (fun _ _ => by kernel_rfl) (fun y _ w' hw => Valid1_any y x wr.heap.size w' (HBT.out.ext hw))
          have hco := ContainsL _ c (ls.take k) w1 (by rw [rowsL_take]; exact HST.out) _ _ _ (fun y => oddV y x) hp
          rw [take_len ls hk] at hco
          have HCO := Lib.hid hco
          clear hp hco
          cases ha : (ls.take k).any (fun y => oddV y x)
          · rw [ha] at HCO
            have HA := Lib.hid ha
            clear ha
            go_wp2_with fail
            refine HCO.out.mono ?_
            rintro e wC ⟨rfl, hxC⟩
            have HXC := Lib.hid (HXT.out.trans hxC)
            have HBC := Lib.hid (HBT.out.ext hxC)
            have HSC := Lib.hid ((HS.out.ext HXC.out).take k)
            clear hxC
            have hp := predL (g := 54) (fa := #[]) (lb := #[.pointer (some ⟨wr.heap.size, 0, none⟩)]) (fun y => ownL y x.site) (ls.take k) wC (fun _ _ => by kernel_rfl) (fun y _ w' hw => Valid2_any y x wr.heap.size w' (HBC.out.ext hw))
            have hw := whereLk _ c (rowsL (ls.take k)) wC (by rw [rowsL_take]; exact HSC.out) (by rw [rowsL_length, take_len ls hk]; omega) _ _ _ _ hp
            rw [rowsL_filter (fun y => ownL y x.site) (ls.take k), rowsL_length, take_len ls hk] at hw
            have HWH := Lib.hid hw
            have hfl2 := filter_len (fun y => ownL y x.site) (ls.take k)
            rw [take_len ls hk] at hfl2
            clear hp hw
            go_wp2_with fail
            refine HWH.out.mono ?_
            rintro e wW ⟨A3, c3, rfl, _, hxW⟩
            have HXW := Lib.hid (HXC.out.trans hxW)
            clear hxW
            rw [rowsL_length]
            by_cases h16 : 16 ≤ ((ls.take k).filter (fun y => ownL y x.site)).length
            · have HV := Lib.hid (validP_no HX.out (by unfold okV; rw [decide_eq_false (by omega)]; simp))
              generalize ((ls.take k).filter (fun y => ownL y x.site)).length = nn at h16 hfl2 ⊢
              go_wp2
              go_ret
              exact ⟨ret_bool HV.out.symm, HXW.out⟩
            · have HOK := Lib.hid (show okV ls k x = true from by unfold okV; rw [HI.out, HOR.out, HA.out, decide_eq_true (by omega)]; rfl)
              have h16b : ((ls.take k).filter (fun y => ownL y x.site)).length < 16 := by omega
              clear h16
              generalize ((ls.take k).filter (fun y => ownL y x.site)).length = nn at h16b hfl2 ⊢
              go_wp2
              go_roundw
              case rel =>
                refine ⟨k + 1, by omega, by go_num, fun i y hi h => ?_, HXW.out⟩
                rcases Nat.lt_succ_iff_lt_or_eq.1 hi with h1 | rfl
                · exact HNO.out i y h1 h
                · rw [HX.out] at h; injection h with h; subst h; exact HOK.out
              case measure => simp [intOf]; omega
          · rw [ha] at HCO
            have HV := Lib.hid (validP_no HX.out (by unfold okV; rw [ha]; simp))
            clear ha
            go_wp2_with fail
            refine HCO.out.mono ?_
            rintro e wC ⟨rfl, hxC⟩
            go_wp2
            go_ret
            exact ⟨ret_bool HV.out.symm, HXT.out.trans hxC⟩
        · obtain ⟨n, hn⟩ : ∃ n, k = n + 1 := ⟨k - 1, by omega⟩
          have hd : decide ((0 : Int) < (k : Int)) = true := by simp; omega
          have hd2 : decide (0 < k) = true := by simp; omega
          obtain ⟨y, hyn⟩ : ∃ y, ls[n]? = some y := ⟨_, List.getElem?_eq_getElem (by omega)⟩
          obtain ⟨b2, off2, hA2, hbl2, hrow2⟩ := lk_row (HS.out.ext HX2.out) hyn
          injection hA2 with hA2
          injection hA2 with hA2 hA3
          subst hA2 hA3
          have r0 := hrow2 0 _ rfl
          have r1 := hrow2 1 _ rfl
          have r2 := hrow2 2 _ rfl
          have r3 := hrow2 3 _ rfl
          have r4 := hrow2 4 _ rfl
          have r5 := hrow2 5 _ rfl
          have r6 := hrow2 6 _ rfl
          have r7 := hrow2 7 _ rfl
          have r8 := hrow2 8 _ rfl
          simp only [Nat.add_zero] at r0
          have HORD := Lib.hid (show ordV ls k x = decide (cmpL y x < 0) from by rw [hn]; unfold ordV; simp only [hyn])
          have HCM := Lib.hid (fun w' => compareL_any y x w')
          have s1 : IntKind.i64.wrap ((k : Int) - 1) = (n : Int) := by rw [IntWalk.i64_in _ (by omega)]; omega
          have s2 : (k : Int) - 1 = (n : Int) := by omega
          have hnk : n < ls.length := by omega
          clear hrow2 hyn hn hk0
          generalize cmpL y x = cv at HCM HORD
          by_cases hcv : 0 ≤ cv
          · have hd3 : decide (0 ≤ cv) = true := decide_eq_true hcv
            have HV := Lib.hid (validP_no HX.out (by unfold okV; rw [HORD.out, decide_eq_false (by omega)]; simp))
            clear hcv
            go_wp2_with fail
            refine wp_region_near (by assumption) (by kernel_rfl) ?_
            repeat (go_big_quiet_step ((first | (go_at_call 52; exact near_call (HIL.out _ (Ext.of_near ⟨⟨_, _⟩, rfl⟩))) | (go_at_call 33; exact near_call (HCM.out _)))))
            refine wpQuiet_nil ?_
            intro w1 hw1
            have hy := Ext.of_near hw1
            clear hw1
            go_wp2
            go_ret
            exact ⟨ret_bool HV.out.symm, HX2.out.trans hy⟩
          · have hd3 : decide (0 ≤ cv) = false := decide_eq_false hcv
            have HOR := Lib.hid (show ordV ls k x = true from by rw [HORD.out, decide_eq_true (by omega)])
            clear hcv
            go_wp2_with fail
            refine wp_region_near (by assumption) (by kernel_rfl) ?_
            repeat (go_big_quiet_step ((first | (go_at_call 52; exact near_call (HIL.out _ (Ext.of_near ⟨⟨_, _⟩, rfl⟩))) | (go_at_call 33; exact near_call (HCM.out _)))))
            refine wpQuiet_nil ?_
            intro w1 hw1
            have hy := Ext.of_near hw1
            clear hw1
            clear s1 s2 r0 r1 r2 r3 r4 r5 r6 r7 r8
            have HXT := Lib.hid (HX2.out.trans hy)
            have HST := Lib.hid ((HS.out.ext HXT.out).take k)
            have HBT := Lib.hid (HB5.out.ext hy)
            clear hy cB lB
            have hp := predL (g := 53) (fa := #[]) (lb := #[.pointer (some ⟨wr.heap.size, 0, none⟩)]) (fun y => oddV y x) (ls.take k) w1 (fun _ _ => by kernel_rfl) (fun y _ w' hw => Valid1_any y x wr.heap.size w' (HBT.out.ext hw))
            have hco := ContainsL _ c (ls.take k) w1 (by rw [rowsL_take]; exact HST.out) _ _ _ (fun y => oddV y x) hp
            rw [take_len ls hk] at hco
            have HCO := Lib.hid hco
            clear hp hco
            cases ha : (ls.take k).any (fun y => oddV y x)
            · rw [ha] at HCO
              have HA := Lib.hid ha
              clear ha
              go_wp2_with fail
              refine HCO.out.mono ?_
              rintro e wC ⟨rfl, hxC⟩
              have HXC := Lib.hid (HXT.out.trans hxC)
              have HBC := Lib.hid (HBT.out.ext hxC)
              have HSC := Lib.hid ((HS.out.ext HXC.out).take k)
              clear hxC
              have hp := predL (g := 54) (fa := #[]) (lb := #[.pointer (some ⟨wr.heap.size, 0, none⟩)]) (fun y => ownL y x.site) (ls.take k) wC (fun _ _ => by kernel_rfl) (fun y _ w' hw => Valid2_any y x wr.heap.size w' (HBC.out.ext hw))
              have hw := whereLk _ c (rowsL (ls.take k)) wC (by rw [rowsL_take]; exact HSC.out) (by rw [rowsL_length, take_len ls hk]; omega) _ _ _ _ hp
              rw [rowsL_filter (fun y => ownL y x.site) (ls.take k), rowsL_length, take_len ls hk] at hw
              have HWH := Lib.hid hw
              have hfl2 := filter_len (fun y => ownL y x.site) (ls.take k)
              rw [take_len ls hk] at hfl2
              clear hp hw
              go_wp2_with fail
              refine HWH.out.mono ?_
              rintro e wW ⟨A3, c3, rfl, _, hxW⟩
              have HXW := Lib.hid (HXC.out.trans hxW)
              clear hxW
              rw [rowsL_length]
              by_cases h16 : 16 ≤ ((ls.take k).filter (fun y => ownL y x.site)).length
              · have HV := Lib.hid (validP_no HX.out (by unfold okV; rw [decide_eq_false (by omega)]; simp))
                generalize ((ls.take k).filter (fun y => ownL y x.site)).length = nn at h16 hfl2 ⊢
                go_wp2
                go_ret
                exact ⟨ret_bool HV.out.symm, HXW.out⟩
              · have HOK := Lib.hid (show okV ls k x = true from by unfold okV; rw [HI.out, HOR.out, HA.out, decide_eq_true (by omega)]; rfl)
                have h16b : ((ls.take k).filter (fun y => ownL y x.site)).length < 16 := by omega
                clear h16
                generalize ((ls.take k).filter (fun y => ownL y x.site)).length = nn at h16b hfl2 ⊢
                go_wp2
                go_roundw
                case rel =>
                  refine ⟨k + 1, by omega, by go_num, fun i y hi h => ?_, HXW.out⟩
                  rcases Nat.lt_succ_iff_lt_or_eq.1 hi with h1 | rfl
                  · exact HNO.out i y h1 h
                  · rw [HX.out] at h; injection h with h; subst h; exact HOK.out
                case measure => simp [intOf]; omega
            · rw [ha] at HCO
              have HV := Lib.hid (validP_no HX.out (by unfold okV; rw [ha]; simp))
              clear ha
              go_wp2_with fail
              refine HCO.out.mono ?_
              rintro e wC ⟨rfl, hxC⟩
              go_wp2
              go_ret
              exact ⟨ret_bool HV.out.symm, HXT.out.trans hxC⟩
    · obtain rfl : k = ls.length := by omega
      have HV := Lib.hid (validP_yes HNO.out)
      have HXX := Lib.hid hx
      clear hx
      go_wp2
      go_ret
      exact ⟨ret_bool HV.out.symm, HXX.out⟩
end Go.Proofs.YtjceebpafnnffaaDoor

namespace Go.Proofs.YtjceebpafnnffaaDoor
open Go Go.RowKit

def pairR (x y : Lk) : Bool := befL y x && !(decide (y.site ≠ x.site) && meetR y.box x.box)
def fieldsR (x : Lk) : Bool := !(decide (x.site < 1) || (decide (8 < x.site) || (decide (x.seq < 1) || (decide (1000 < x.seq) || (decide (x.til < 0) || (decide (4000 < x.til) || (!nearP x.box.lo || !nearP x.box.hi)))))))
def sameS (x y : Lk) : Bool := decide (y.site = x.site)
def okR (ls : List Lk) (k : Nat) (x : Lk) : Bool := fieldsR x && (!emptyB x.box && ((ls.take k).all (pairR x) && decide ((ls.take k).countP (sameS x) < 16)))
def validR (ls : List Lk) : Bool := (List.range ls.length).all fun k => match ls[k]? with | some x => okR ls k x | none => true
theorem validR_iff (ls : List Lk) : validR ls = true ↔ ∀ (k : Nat) (x : Lk), ls[k]? = some x → okR ls k x = true := by
  unfold validR
  rw [List.all_eq_true]
  constructor
  · intro h k x hx
    have h1 := h k (List.mem_range.2 (List.getElem?_eq_some_iff.1 hx).1)
    rw [hx] at h1
    exact h1
  · intro h k hk
    rw [List.getElem?_eq_getElem (List.mem_range.1 hk)]
    exact h k _ (List.getElem?_eq_getElem _)
theorem validR_no {ls : List Lk} {k : Nat} {x : Lk} (hx : ls[k]? = some x) (h : okR ls k x = false) : validR ls = false := by
  cases hv : validR ls
  · rfl
  · rw [(validR_iff ls).1 hv k x hx] at h; cases h
theorem validR_yes {ls : List Lk} (h : ∀ (k : Nat) (x : Lk), k < ls.length → ls[k]? = some x → okR ls k x = true) : validR ls = true :=
  (validR_iff ls).2 fun k x hx => h k x (List.getElem?_eq_some_iff.1 hx).1 hx
theorem all_step {f : Lk → Bool} {ls : List Lk} {j : Nat} {y : Lk} (hy : ls[j]? = some y) : (ls.take (j + 1)).all f = ((ls.take j).all f && f y) := by
  obtain ⟨hi, rfl⟩ := List.getElem?_eq_some_iff.1 hy
  rw [List.take_succ_eq_append_getElem hi, List.all_append]
  simp
theorem all_no {f : Lk → Bool} {ls : List Lk} {j k : Nat} {y : Lk} (hy : ls[j]? = some y) (hj : j < k) (h : f y = false) : (ls.take k).all f = false := by
  rw [List.all_eq_false]
  refine ⟨y, ?_, by rw [h]; simp⟩
  have : (ls.take k)[j]? = some y := by rw [List.getElem?_take, if_pos hj]; exact hy
  exact List.mem_of_getElem? this
theorem eight (b0 b1 b2 b3 b4 b5 b6 b7 : Bool) : b0 = true ∨ (b0 = false ∧ b1 = true) ∨ (b0 = false ∧ b1 = false ∧ b2 = true) ∨ (b0 = false ∧ b1 = false ∧ b2 = false ∧ b3 = true) ∨ (b0 = false ∧ b1 = false ∧ b2 = false ∧ b3 = false ∧ b4 = true)
    ∨ (b0 = false ∧ b1 = false ∧ b2 = false ∧ b3 = false ∧ b4 = false ∧ b5 = true) ∨ (b0 = false ∧ b1 = false ∧ b2 = false ∧ b3 = false ∧ b4 = false ∧ b5 = false ∧ b6 = false) ∨ (b0 = false ∧ b1 = false ∧ b2 = false ∧ b3 = false ∧ b4 = false ∧ b5 = false ∧ b6 = true ∧ b7 = false)
    ∨ (b0 = false ∧ b1 = false ∧ b2 = false ∧ b3 = false ∧ b4 = false ∧ b5 = false ∧ b6 = true ∧ b7 = true) := by
  cases b0 <;> cases b1 <;> cases b2 <;> cases b3 <;> cases b4 <;> cases b5 <;> cases b6 <;> cases b7 <;> simp

set_option maxRecDepth 100000 in
set_option maxHeartbeats 16000000 in
theorem refValid_any (A : Option Addr) (c : Nat) (ls : List Lk) (w : World) (hs : Sv w w.heap.size 9 A c (rowsL ls)) (hb : ls.length ≤ 1000000) :
    Calls Tryd.prog 25 #[.slice A ls.length c] w fun e w' => e = .returned (.bool (validR ls)) ∧ Ext w w' := by
  have hm := mixed
  have hG := near_old
  have HS := Lib.hid hs; clear hs
  go_enter Tryd.func25, Tryd.ntmps25
  go_wp2
  go_loopw [3] (fun i wr => ∃ k : Nat, k ≤ ls.length ∧ i = .int .i64 k ∧ (∀ (i : Nat) (y : Lk), i < k → ls[i]? = some y → okR ls i y = true) ∧ Ext w wr) (fun i _ => ls.length - (intOf i).toNat)
  case atStart => exact ⟨0, Nat.zero_le _, rfl, fun i y hi => by omega, Ext.refl _⟩
  case round =>
    obtain ⟨k, hk, rfl, hno, hx⟩ := hrel
    obtain ⟨wo, rfl⟩ : ∃ wo : World, wo = wr := ⟨_, rfl⟩
    have HNO := Lib.hid hno; clear hno
    by_cases hlt : k < ls.length
    · obtain ⟨x, hxk⟩ : ∃ x, ls[k]? = some x := ⟨_, List.getElem?_eq_getElem hlt⟩
      obtain ⟨b', off, rfl, hbl, hrow⟩ := lk_row (HS.out.ext hx) hxk
      have HX := Lib.hid hxk
      have HXX := Lib.hid hx
      have HRW := Lib.hid hrow
      have B4 := Arr.new wo 52 [.int .i64 0, .int .i64 0, .int .i64 0, .int .i64 0, .int .i64 0, .int .i64 0, .int .i64 0, .int .i64 0, .int .i64 0]
      have B5 := B4.setRow x.cells
      have hX2 : Ext wo ((wo.alloc (.cells #[.int .i64 0, .int .i64 0, .int .i64 0, .int .i64 0, .int .i64 0, .int .i64 0, .int .i64 0, .int .i64 0, .int .i64 0] 52)).setRow wo.heap.size x.cells.toArray) := ((Ext.refl wo).alloc _).setRow (Nat.le_refl _) _
      have HX2 := Lib.hid (HXX.out.trans hX2)
      have HB4 := Lib.hid B4
      have HB5 := Lib.hid B5
      have hszo : wo.heap.size < ((wo.alloc (.cells #[.int .i64 0, .int .i64 0, .int .i64 0, .int .i64 0, .int .i64 0, .int .i64 0, .int .i64 0, .int .i64 0, .int .i64 0] 52)).setRow wo.heap.size x.cells.toArray).heap.size := B5.lt
      have HSZ := Lib.hid hszo
      clear hrow hxk hx hX2 B4 B5 hszo
      have hn1 := fun w' => near_any x.box.lo w'
      have hn2 := fun w' => near_any x.box.hi w'
      have hfs := show fieldsR x = !(decide (x.site < 1) || (decide (8 < x.site) || (decide (x.seq < 1) || (decide (1000 < x.seq) || (decide (x.til < 0) || (decide (4000 < x.til) || (!nearP x.box.lo || !nearP x.box.hi))))))) from rfl
      generalize nearP x.box.lo = n1 at hn1 hfs
      generalize nearP x.box.hi = n2 at hn2 hfs
      have HN1 := Lib.hid hn1; have HN2 := Lib.hid hn2; have HFS := Lib.hid hfs
      clear hn1 hn2 hfs
      go_wp2_with (first
        | (refine wpList_load_mid rfl 52 (.tmp 20) rfl b' (off + k * 9) rfl x.cells _ HRW.out Tryd.underlying52 rfl (by kernel_rfl) ?_)
        | (refine wpList_store_blk 52 (.tmp 4) (.tmp 21) rfl rfl HB4.out x.cells rfl rfl (by kernel_rfl) rfl rfl ?_)
        | (refine wpList_load_part 26 (.tmp 23) rfl rfl HB5.out 3 [.int .i64 x.box.lo.x, .int .i64 x.box.lo.y, .int .i64 x.box.lo.z] rfl rfl _ Tryd.underlying26 rfl (by kernel_rfl) ?_) | (refine wpList_load_part 26 (.tmp 23) rfl rfl (HB5.out.alloc _) 3 [.int .i64 x.box.lo.x, .int .i64 x.box.lo.y, .int .i64 x.box.lo.z] rfl rfl _ Tryd.underlying26 rfl (by kernel_rfl) ?_))
      refine (HN1.out _).mono ?_
      rintro e w5 ⟨rfl, x5⟩
      have HB6 := Lib.hid (HB5.out.ext x5)
      have HX5 := Lib.hid (HX2.out.trans x5)
      have s5 := x5.size
      clear x5
      go_wp2_with (first | (refine wpList_load_part 26 (.tmp 27) rfl rfl HB6.out 6 [.int .i64 x.box.hi.x, .int .i64 x.box.hi.y, .int .i64 x.box.hi.z] rfl rfl _ Tryd.underlying26 rfl (by kernel_rfl) ?_) | (refine wpList_load_part 26 (.tmp 27) rfl rfl (HB6.out.alloc _) 6 [.int .i64 x.box.hi.x, .int .i64 x.box.hi.y, .int .i64 x.box.hi.z] rfl rfl _ Tryd.underlying26 rfl (by kernel_rfl) ?_))
      refine (HN2.out _).mono ?_
      rintro e w6 ⟨rfl, x6⟩
      have B7 := HB6.out.ext x6
      have HX6 := Lib.hid (HX5.out.trans x6)
      have HB7 := Lib.hid B7
      have cB := B7.cell
      have lB := B7.lt
      unfold Lk.cells at cB
      clear x6 B7 s5
      rcases eight (decide (x.site < 1)) (decide (8 < x.site)) (decide (x.seq < 1)) (decide (1000 < x.seq)) (decide (x.til < 0)) (decide (4000 < x.til)) n1 n2 with h0 | ⟨h0, h1⟩ | ⟨h0, h1, h2⟩ | ⟨h0, h1, h2, h3⟩ | ⟨h0, h1, h2, h3, h4⟩ | ⟨h0, h1, h2, h3, h4, h5⟩ | ⟨h0, h1, h2, h3, h4, h5, rfl⟩ | ⟨h0, h1, h2, h3, h4, h5, rfl, rfl⟩ | ⟨h0, h1, h2, h3, h4, h5, rfl, rfl⟩
      rotate_right
      · have HF := Lib.hid (show fieldsR x = true from by rw [HFS.out, h0, h1, h2, h3, h4, h5]; rfl)
        have HME := Lib.hid (fun w' => refEmpty_any x.box w')
        cases he : emptyB x.box
        · rw [he] at HME
          have HE := Lib.hid he
          clear he
          go_wp2_with (first | (refine wpList_load_part 28 (.tmp 66) rfl rfl HB7.out 3 [.int .i64 x.box.lo.x, .int .i64 x.box.lo.y, .int .i64 x.box.lo.z, .int .i64 x.box.hi.x, .int .i64 x.box.hi.y, .int .i64 x.box.hi.z] rfl rfl _ Tryd.underlying28 rfl (by kernel_rfl) ?_) | (refine wpList_load_part 28 (.tmp 66) rfl rfl (HB7.out.alloc _) 3 [.int .i64 x.box.lo.x, .int .i64 x.box.lo.y, .int .i64 x.box.lo.z, .int .i64 x.box.hi.x, .int .i64 x.box.hi.y, .int .i64 x.box.hi.z] rfl rfl _ Tryd.underlying28 rfl (by kernel_rfl) ?_))
          refine (HME.out _).mono ?_
          rintro e w7 ⟨rfl, x7⟩
          have HB8 := Lib.hid (HB7.out.ext x7)
          have HX7 := Lib.hid (HX6.out.trans x7)
          clear x7 cB lB h0 h1 h2 h3 h4 h5 HME HN1 HN2 HFS
          go_wp2_with fail
          go_loopw [8, 9] (fun n i wl => ∃ j q : Nat, j ≤ k ∧ i = .int .i64 j ∧ n = .int .i64 q ∧ q = (ls.take j).countP (sameS x) + 1 ∧ (ls.take j).all (pairR x) = true ∧ Ext w7 wl) (fun _ i _ => k - (intOf i).toNat)
          case atStart => exact ⟨0, 1, Nat.zero_le _, rfl, rfl, rfl, rfl, Ext.refl _⟩
          case round =>
            obtain ⟨j, q, hj, rfl, rfl, hq, hall, hx⟩ := hrel
            have HALL := Lib.hid hall
            have HQ := Lib.hid hq
            have hqb : q ≤ k + 1 := by have := countP_take_le (sameS x) ls j; omega
            clear hall hq
            by_cases hjk : j < k
            · obtain ⟨y, hyj⟩ : ∃ y, ls[j]? = some y := ⟨_, List.getElem?_eq_getElem (by omega)⟩
              obtain ⟨b2, off2, hA2, hbl2, hrow2⟩ := lk_row (HS.out.ext (HX7.out.trans hx)) hyj
              injection hA2 with hA2
              injection hA2 with hA2 hA3
              subst hA2 hA3
              have r0 := hrow2 0 _ rfl
              have r1 := hrow2 1 _ rfl
              have r2 := hrow2 2 _ rfl
              have r3 := hrow2 3 _ rfl
              have r4 := hrow2 4 _ rfl
              have r5 := hrow2 5 _ rfl
              have r6 := hrow2 6 _ rfl
              have r7 := hrow2 7 _ rfl
              have r8 := hrow2 8 _ rfl
              simp only [Nat.add_zero] at r0
              have hjl : j < ls.length := by omega
              have B9 := HB8.out.ext hx
              have cB := B9.cell
              have lB := B9.lt
              unfold Lk.cells at cB
              have HYJ := Lib.hid hyj
              have HXX := Lib.hid hx
              have HBE := Lib.hid (fun w' => before_any y x w')
              have HME := Lib.hid (fun w' => refmeet_any y.box x.box w')
              clear B9 hyj hx hrow2
              cases hbe : befL y x
              · rw [hbe] at HBE
                have HV := Lib.hid (validR_no HX.out (by unfold okR; rw [all_no HYJ.out hjk (by unfold pairR; rw [hbe]; rfl)]; simp))
                generalize meetR y.box x.box = mt at HME
                clear hbe
                go_wp2_with fail
                refine wp_region_near (by assumption) (by kernel_rfl) ?_
                repeat (go_big_quiet_step ((go_at_call 42; exact near_call (HBE.out _))))
                refine wpQuiet_nil ?_
                intro w1 hw1
                have hy := Ext.of_near hw1
                clear hw1
                obtain ⟨xc, xf, xl, xe, xn, xm⟩ := hy.look
                have hbl2 := Nat.lt_of_lt_of_le hbl2 hy.size
                have lB := Nat.lt_of_lt_of_le lB hy.size
                have HXX := Lib.hid (HXX.out.trans hy)
                clear hy
                go_wp2_with fail
                refine wp_region_near (by assumption) (by kernel_rfl) ?_
                repeat (go_big_quiet_step ((go_at_call 41; exact near_call (HME.out _))))
                refine wpQuiet_nil ?_
                intro w1 hw1
                have hy := Ext.of_near hw1
                clear hw1
                obtain ⟨xc, xf, xl, xe, xn, xm⟩ := hy.look
                have hbl2 := Nat.lt_of_lt_of_le hbl2 hy.size
                have lB := Nat.lt_of_lt_of_le lB hy.size
                have HXX := Lib.hid (HXX.out.trans hy)
                clear hy
                go_wp2_with fail
                refine wp_region_near (by assumption) (by kernel_rfl) ?_
                repeat (go_big_quiet_step (fail))
                refine wpQuiet_nil ?_
                intro w1 hw1
                have hy := Ext.of_near hw1
                clear hw1
                go_wp2
                go_ret
                exact ⟨ret_bool HV.out.symm, HX7.out.trans (HXX.out.trans hy)⟩
              · rw [hbe] at HBE
                by_cases hsm : y.site = x.site
                · have b1 : (y.site != x.site) = false := by simp [hsm]
                  have b2 : (y.site == x.site) = true := by simp [hsm]
                  have HP := Lib.hid (show pairR x y = true from by unfold pairR; rw [hbe]; simp [hsm])
                  have HSM := Lib.hid (show sameS x y = true from by unfold sameS; simp [hsm])
                  generalize meetR y.box x.box = mt at HME
                  clear hbe hsm
                  go_wp2_with fail
                  refine wp_region_near (by assumption) (by kernel_rfl) ?_
                  repeat (go_big_quiet_step ((go_at_call 42; exact near_call (HBE.out _))))
                  refine wpQuiet_nil ?_
                  intro w1 hw1
                  have hy := Ext.of_near hw1
                  clear hw1
                  obtain ⟨xc, xf, xl, xe, xn, xm⟩ := hy.look
                  have hbl2 := Nat.lt_of_lt_of_le hbl2 hy.size
                  have lB := Nat.lt_of_lt_of_le lB hy.size
                  have HXX := Lib.hid (HXX.out.trans hy)
                  clear hy
                  go_wp2_with fail
                  refine wp_region_near (by assumption) (by kernel_rfl) ?_
                  repeat (go_big_quiet_step ((go_at_call 41; exact near_call (HME.out _))))
                  refine wpQuiet_nil ?_
                  intro w1 hw1
                  have hy := Ext.of_near hw1
                  clear hw1
                  obtain ⟨xc, xf, xl, xe, xn, xm⟩ := hy.look
                  have hbl2 := Nat.lt_of_lt_of_le hbl2 hy.size
                  have lB := Nat.lt_of_lt_of_le lB hy.size
                  have HXX := Lib.hid (HXX.out.trans hy)
                  clear hy
                  go_wp2_with fail
                  refine wp_region_near (by assumption) (by kernel_rfl) ?_
                  repeat (go_big_quiet_step (fail))
                  refine wpQuiet_nil ?_
                  intro w1 hw1
                  have hy := Ext.of_near hw1
                  clear hw1
                  obtain ⟨xc, xf, xl, xe, xn, xm⟩ := hy.look
                  have hbl2 := Nat.lt_of_lt_of_le hbl2 hy.size
                  have lB := Nat.lt_of_lt_of_le lB hy.size
                  have HXX := Lib.hid (HXX.out.trans hy)
                  clear hy
                  go_wp2_with fail
                  refine wp_region_near (by assumption) (by kernel_rfl) ?_
                  repeat (go_big_quiet_step (fail))
                  refine wpQuiet_nil ?_
                  intro w1 hw1
                  have hy := Ext.of_near hw1
                  clear hw1
                  obtain ⟨xc, xf, xl, xe, xn, xm⟩ := hy.look
                  have hbl2 := Nat.lt_of_lt_of_le hbl2 hy.size
                  have lB := Nat.lt_of_lt_of_le lB hy.size
                  have HXX := Lib.hid (HXX.out.trans hy)
                  clear hy
                  go_wp2
                  go_roundw
                  case rel => exact ⟨j + 1, q + 1, by omega, by go_num, by go_num, by rw [countP_step HYJ.out, HSM.out, HQ.out]; simp, by rw [all_step HYJ.out, HALL.out, HP.out]; rfl, HXX.out⟩
                  case measure => simp [intOf]; omega
                · have b1 : (y.site != x.site) = true := by simp [hsm]
                  have b2 : (y.site == x.site) = false := by simp [hsm]
                  have HSM := Lib.hid (show sameS x y = false from by unfold sameS; simp [hsm])
                  cases hmt : meetR y.box x.box
                  · rw [hmt] at HME
                    have HP := Lib.hid (show pairR x y = true from by unfold pairR; rw [hbe, hmt]; simp)
                    clear hbe hsm hmt
                    go_wp2_with fail
                    refine wp_region_near (by assumption) (by kernel_rfl) ?_
                    repeat (go_big_quiet_step ((go_at_call 42; exact near_call (HBE.out _))))
                    refine wpQuiet_nil ?_
                    intro w1 hw1
                    have hy := Ext.of_near hw1
                    clear hw1
                    obtain ⟨xc, xf, xl, xe, xn, xm⟩ := hy.look
                    have hbl2 := Nat.lt_of_lt_of_le hbl2 hy.size
                    have lB := Nat.lt_of_lt_of_le lB hy.size
                    have HXX := Lib.hid (HXX.out.trans hy)
                    clear hy
                    go_wp2_with fail
                    refine wp_region_near (by assumption) (by kernel_rfl) ?_
                    repeat (go_big_quiet_step ((go_at_call 41; exact near_call (HME.out _))))
                    refine wpQuiet_nil ?_
                    intro w1 hw1
                    have hy := Ext.of_near hw1
                    clear hw1
                    obtain ⟨xc, xf, xl, xe, xn, xm⟩ := hy.look
                    have hbl2 := Nat.lt_of_lt_of_le hbl2 hy.size
                    have lB := Nat.lt_of_lt_of_le lB hy.size
                    have HXX := Lib.hid (HXX.out.trans hy)
                    clear hy
                    go_wp2_with fail
                    refine wp_region_near (by assumption) (by kernel_rfl) ?_
                    repeat (go_big_quiet_step (fail))
                    refine wpQuiet_nil ?_
                    intro w1 hw1
                    have hy := Ext.of_near hw1
                    clear hw1
                    obtain ⟨xc, xf, xl, xe, xn, xm⟩ := hy.look
                    have hbl2 := Nat.lt_of_lt_of_le hbl2 hy.size
                    have lB := Nat.lt_of_lt_of_le lB hy.size
                    have HXX := Lib.hid (HXX.out.trans hy)
                    clear hy
                    go_wp2_with fail
                    refine wp_region_near (by assumption) (by kernel_rfl) ?_
                    repeat (go_big_quiet_step (fail))
                    refine wpQuiet_nil ?_
                    intro w1 hw1
                    have hy := Ext.of_near hw1
                    clear hw1
                    obtain ⟨xc, xf, xl, xe, xn, xm⟩ := hy.look
                    have hbl2 := Nat.lt_of_lt_of_le hbl2 hy.size
                    have lB := Nat.lt_of_lt_of_le lB hy.size
                    have HXX := Lib.hid (HXX.out.trans hy)
                    clear hy
                    go_wp2
                    go_roundw
                    case rel => exact ⟨j + 1, q, by omega, by go_num, by go_num, by rw [countP_step HYJ.out, HSM.out, HQ.out]; simp, by rw [all_step HYJ.out, HALL.out, HP.out]; rfl, HXX.out⟩
                    case measure => simp [intOf]; omega
                  · rw [hmt] at HME
                    have HV := Lib.hid (validR_no HX.out (by unfold okR; rw [all_no HYJ.out hjk (by unfold pairR; rw [hbe, hmt]; simp [hsm])]; simp))
                    clear hbe hsm hmt
                    go_wp2_with fail
                    refine wp_region_near (by assumption) (by kernel_rfl) ?_
                    repeat (go_big_quiet_step ((go_at_call 42; exact near_call (HBE.out _))))
                    refine wpQuiet_nil ?_
                    intro w1 hw1
                    have hy := Ext.of_near hw1
                    clear hw1
                    obtain ⟨xc, xf, xl, xe, xn, xm⟩ := hy.look
                    have hbl2 := Nat.lt_of_lt_of_le hbl2 hy.size
                    have lB := Nat.lt_of_lt_of_le lB hy.size
                    have HXX := Lib.hid (HXX.out.trans hy)
                    clear hy
                    go_wp2_with fail
                    refine wp_region_near (by assumption) (by kernel_rfl) ?_
                    repeat (go_big_quiet_step ((go_at_call 41; exact near_call (HME.out _))))
                    refine wpQuiet_nil ?_
                    intro w1 hw1
                    have hy := Ext.of_near hw1
                    clear hw1
                    obtain ⟨xc, xf, xl, xe, xn, xm⟩ := hy.look
                    have hbl2 := Nat.lt_of_lt_of_le hbl2 hy.size
                    have lB := Nat.lt_of_lt_of_le lB hy.size
                    have HXX := Lib.hid (HXX.out.trans hy)
                    clear hy
                    go_wp2_with fail
                    refine wp_region_near (by assumption) (by kernel_rfl) ?_
                    repeat (go_big_quiet_step (fail))
                    refine wpQuiet_nil ?_
                    intro w1 hw1
                    have hy := Ext.of_near hw1
                    clear hw1
                    go_wp2
                    go_ret
                    exact ⟨ret_bool HV.out.symm, HX7.out.trans (HXX.out.trans hy)⟩
            · obtain rfl : j = k := by omega
              have HXX := Lib.hid (HX7.out.trans hx)
              clear hx
              by_cases h16 : 16 < q
              · have HV := Lib.hid (validR_no HX.out (by unfold okR; rw [decide_eq_false (by have := HQ.out; omega)]; simp))
                go_wp2
                go_ret
                exact ⟨ret_bool HV.out.symm, HXX.out⟩
              · have HOK := Lib.hid (show okR ls j x = true from by unfold okR; rw [HF.out, HE.out, HALL.out, decide_eq_true (by have := HQ.out; omega)]; rfl)
                go_wp2
                go_roundw
                case rel =>
                  refine ⟨j + 1, by omega, by go_num, fun i y hi h => ?_, HXX.out⟩
                  rcases Nat.lt_succ_iff_lt_or_eq.1 hi with h1 | rfl
                  · exact HNO.out i y h1 h
                  · rw [HX.out] at h; injection h with h; subst h; exact HOK.out
                case measure => simp [intOf]; omega
        · rw [he] at HME
          have HV := Lib.hid (validR_no HX.out (by unfold okR; rw [he]; simp))
          clear he
          go_wp2_with (first | (refine wpList_load_part 28 (.tmp 66) rfl rfl HB7.out 3 [.int .i64 x.box.lo.x, .int .i64 x.box.lo.y, .int .i64 x.box.lo.z, .int .i64 x.box.hi.x, .int .i64 x.box.hi.y, .int .i64 x.box.hi.z] rfl rfl _ Tryd.underlying28 rfl (by kernel_rfl) ?_) | (refine wpList_load_part 28 (.tmp 66) rfl rfl (HB7.out.alloc _) 3 [.int .i64 x.box.lo.x, .int .i64 x.box.lo.y, .int .i64 x.box.lo.z, .int .i64 x.box.hi.x, .int .i64 x.box.hi.y, .int .i64 x.box.hi.z] rfl rfl _ Tryd.underlying28 rfl (by kernel_rfl) ?_))
          refine (HME.out _).mono ?_
          rintro e w7 ⟨rfl, x7⟩
          go_wp2
          go_ret
          exact ⟨ret_bool HV.out.symm, HX6.out.trans x7⟩
      all_goals
        have HV := Lib.hid (validR_no HX.out (by unfold okR; rw [HFS.out]; simp [*]))
        go_wp2
        go_ret
        exact ⟨ret_bool HV.out.symm, HX6.out⟩
    · obtain rfl : k = ls.length := by omega
      have HV := Lib.hid (validR_yes HNO.out)
      have HXX := Lib.hid hx
      clear hx
      go_wp2
      go_ret
      exact ⟨ret_bool HV.out.symm, HXX.out⟩
end Go.Proofs.YtjceebpafnnffaaDoor

namespace Go.Proofs.YtjceebpafnnffaaDoor
open Go Go.RowKit

def fits (x : Ed) : Prop := x.box.hi.x ≤ 9223372036854775807 ∧ x.box.hi.y ≤ 9223372036854775807 ∧ x.box.hi.z ≤ 9223372036854775807
theorem last_in (b : Bx) (S : Int) (_h0 : S ≤ 1000000) (h : inP b.lo (cubeB S) = true) (he : emptyB b = false) (hx : b.hi.x ≤ 9223372036854775807 ∧ b.hi.y ≤ 9223372036854775807 ∧ b.hi.z ≤ 9223372036854775807) :
    inP (lastP b) (cubeB S) = (decide (b.hi.x ≤ S) && (decide (b.hi.y ≤ S) && decide (b.hi.z ≤ S))) := by
  have h9 : 0 ≤ b.lo.x ∧ 0 ≤ b.lo.y ∧ 0 ≤ b.lo.z ∧ b.lo.x < S ∧ b.lo.y < S ∧ b.lo.z < S := by
    unfold inP cubeB at h
    simp only [Bool.and_eq_true, decide_eq_true_eq] at h
    exact ⟨h.1, h.2.2.1, h.2.2.2.2.1, h.2.1, h.2.2.2.1, h.2.2.2.2.2⟩
  have he2 : b.lo.x < b.hi.x ∧ b.lo.y < b.hi.y ∧ b.lo.z < b.hi.z := by
    simp only [emptyB, inP, Bool.not_eq_false', Bool.and_eq_true, decide_eq_true_eq] at he
    omega
  have w1 : wrap64 (b.hi.x + wrap64 (-1 * 1)) = b.hi.x - 1 := by
    have : wrap64 (-1 * 1) = -1 := by unfold wrap64; omega
    rw [this]; unfold wrap64; omega
  have w2 : wrap64 (b.hi.y + wrap64 (-1 * 1)) = b.hi.y - 1 := by
    have : wrap64 (-1 * 1) = -1 := by unfold wrap64; omega
    rw [this]; unfold wrap64; omega
  have w3 : wrap64 (b.hi.z + wrap64 (-1 * 1)) = b.hi.z - 1 := by
    have : wrap64 (-1 * 1) = -1 := by unfold wrap64; omega
    rw [this]; unfold wrap64; omega
  rw [Bool.eq_iff_iff]
  simp only [lastP, addP, scaleP, inP, cubeB, w1, w2, w3, Bool.and_eq_true, decide_eq_true_eq]
  omega
theorem box_iff (x : Ed) (S : Int) (h0 : S ≤ 1000000) (hw : fits x) : boxE x S = !(emptyB x.box || (!inP x.box.lo (cubeB S) || !inP (lastP x.box) (cubeB S))) := by
  unfold boxE hiE
  cases he : emptyB x.box
  · cases hl : inP x.box.lo (cubeB S)
    · rfl
    · rw [last_in x.box S h0 hl he hw]
      simp
  · rfl
theorem usesF_lits (x : Ed) : (x.kind = 1 → usesF x.kind 1 = true ∧ usesF x.kind 2 = false ∧ usesF x.kind 4 = false ∧ usesF x.kind 8 = true ∧ usesF x.kind 16 = false) := fun h => by rw [h]; decide
theorem ok_bad (x : Ed) (S m : Int) (h0 : S ≤ 1000000) (hm : 1 ≤ m) (hf : formedE x = true) (hw : fits x) : okE x S m = !badE x S m := by
  have hb := box_iff x S h0 hw
  have hd := formedE_def x
  rw [hf] at hd
  have hd := hd.symm
  simp only [Bool.and_eq_true, decide_eq_true_eq, Bool.or_eq_true] at hd
  obtain ⟨hv, hk, h1, h2, h4, h8, h16⟩ := hd
  have hvv := (validS_iff x.st).1 hv
  rw [badE_def]
  have hk2 : x.kind = 1 ∨ x.kind = 2 ∨ x.kind = 3 ∨ x.kind = 4 ∨ x.kind = 5 ∨ x.kind = 6 ∨ x.kind = 7 ∨ x.kind = 8 := by omega
  generalize emptyB x.box = b1 at hb ⊢
  generalize inP x.box.lo (cubeB S) = b2 at hb ⊢
  generalize inP (lastP x.box) (cubeB S) = b3 at hb ⊢
  generalize hba : inP x.at_ (cubeB S) = b4
  unfold okE
  rw [hb, hba]
  unfold turnE cellE leastE mostE
  rcases hk2 with h | h | h | h | h | h | h | h
  all_goals
    rw [h] at h1 h2 h4 h8 h16 ⊢
    simp [usesF] at h1 h2 h4 h8 h16 ⊢
    rw [Bool.eq_iff_iff]
    cases b1 <;> cases b2 <;> cases b3 <;> cases b4 <;> simp <;> omega
theorem check_eq (x : Ed) (d m : Int) (hw : fits x) : checkR x d m = checkE x d m := by
  unfold checkR checkE
  by_cases hd : 2 ≤ d ∧ d ≤ 14
  · by_cases hm : 1 ≤ m ∧ m ≤ 256
    · cases hf : formedE x
      · simp
      · have hS : (2 : Int) ^ d.toNat ≤ 1000000 := by
          obtain rfl | rfl | rfl | rfl | rfl | rfl | rfl | rfl | rfl | rfl | rfl | rfl | rfl : d = 2 ∨ d = 3 ∨ d = 4 ∨ d = 5 ∨ d = 6 ∨ d = 7 ∨ d = 8 ∨ d = 9 ∨ d = 10 ∨ d = 11 ∨ d = 12 ∨ d = 13 ∨ d = 14 := by omega
          all_goals decide
        rw [ok_bad x _ m hS hm.1 hf hw]
        cases badE x (2 ^ d.toNat) m <;> simp
    · rw [decide_eq_false hm]; simp
  · rw [decide_eq_false hd]; simp
end Go.Proofs.YtjceebpafnnffaaDoor

namespace Go.Proofs.YtjceebpafnnffaaDoor
open Go Go.RowKit

def fullB (b : Bx) : Prop := b.lo.x < b.hi.x ∧ b.lo.y < b.hi.y ∧ b.lo.z < b.hi.z
def nearB (b : Bx) : Prop := 0 ≤ b.lo.x ∧ 0 ≤ b.lo.y ∧ 0 ≤ b.lo.z ∧ b.hi.x ≤ 16384 ∧ b.hi.y ≤ 16384 ∧ b.hi.z ≤ 16384
theorem empty_full (b : Bx) : emptyB b = false ↔ fullB b := by
  unfold emptyB inP fullB
  simp only [Bool.not_eq_false', Bool.and_eq_true, decide_eq_true_eq]
  omega
theorem empty_not (b : Bx) : emptyB b = true ↔ ¬ fullB b := by
  rw [← empty_full]; simp
theorem meetL_iff (a b : Bx) : meetL a b = true ↔ fullB (meetB a b) := by
  unfold meetL interB
  cases h : emptyB (meetB a b)
  · simp only [Bool.false_eq_true, if_false, h, Bool.not_false, true_iff]
    exact (empty_full _).1 h
  · have h1 := (empty_not _).1 h
    have : emptyB zeroBx = true := by decide
    simp [this, h1]
theorem vol_pos (d1 d2 d3 : Int) (h1 : 1 ≤ d1 ∧ d1 ≤ 16384) (h2 : 1 ≤ d2 ∧ d2 ≤ 16384) (h3 : 1 ≤ d3 ∧ d3 ≤ 16384) : 0 < wrap64 (wrap64 (d1 * d2) * d3) := by
  have a1 : 1 * 1 ≤ d1 * d2 := Int.mul_le_mul h1.1 h2.1 (by omega) (by omega)
  have a2 : d1 * d2 ≤ 16384 * 16384 := Int.mul_le_mul h1.2 h2.2 (by omega) (by omega)
  have e1 : wrap64 (d1 * d2) = d1 * d2 := by unfold wrap64; omega
  rw [e1]
  generalize d1 * d2 = q at a1 a2
  have a3 : 1 * 1 ≤ q * d3 := Int.mul_le_mul (by omega) h3.1 (by omega) (by omega)
  have a4 : q * d3 ≤ (16384 * 16384) * 16384 := Int.mul_le_mul a2 h3.2 (by omega) (by omega)
  generalize q * d3 = r at a3 a4
  unfold wrap64; omega
theorem meetR_iff (a b : Bx) (hn : nearB b) : meetR a b = true ↔ fullB (meetB a b) := by
  unfold meetR interB
  cases h : emptyB (meetB a b)
  · have h1 := (empty_full _).1 h
    have h2 := h1
    unfold fullB meetB at h2
    unfold nearB at hn
    simp only [Bool.false_eq_true, if_false, decide_eq_true_eq]
    refine ⟨fun _ => h1, fun _ => ?_⟩
    unfold volP sizeP
    rw [h]
    simp only [Bool.false_eq_true, if_false, subP, meetB]
    simp only at h2
    have e1 : wrap64 (min a.hi.x b.hi.x - max a.lo.x b.lo.x) = min a.hi.x b.hi.x - max a.lo.x b.lo.x := by unfold wrap64; omega
    have e2 : wrap64 (min a.hi.y b.hi.y - max a.lo.y b.lo.y) = min a.hi.y b.hi.y - max a.lo.y b.lo.y := by unfold wrap64; omega
    have e3 : wrap64 (min a.hi.z b.hi.z - max a.lo.z b.lo.z) = min a.hi.z b.hi.z - max a.lo.z b.lo.z := by unfold wrap64; omega
    rw [e1, e2, e3]
    exact vol_pos _ _ _ (by omega) (by omega) (by omega)
  · have h1 := (empty_not _).1 h
    have : volP zeroBx = 0 := by unfold volP sizeP; rw [show emptyB zeroBx = true by decide, if_pos rfl]; simp [zeroPt, wrap64]
    simp [this, h1]
theorem meetB_comm (a b : Bx) : meetB a b = meetB b a := by
  unfold meetB
  simp only [Int.max_comm, Int.min_comm]
structure Good (y : Lk) : Prop where
  site : 1 ≤ y.site ∧ y.site ≤ 8
  seq : 1 ≤ y.seq ∧ y.seq ≤ 1000
  til : 0 ≤ y.til ∧ y.til ≤ 4000
  near : nearB y.box
  full : fullB y.box
theorem good_V (x : Lk) : isLockB x = true ↔ Good x := by
  unfold isLockB
  simp only [Bool.and_eq_true, decide_eq_true_eq, Bool.not_eq_true', empty_full]
  constructor
  · rintro ⟨h1, h2, h3, h4, h5⟩
    refine ⟨h1, h2, h3, ?_, h4⟩
    unfold interB at h5
    split at h5
    · rw [← h5] at h4; exact absurd h4 (by unfold fullB zeroBx; simp)
    · rw [← h5]
      unfold nearB meetB worldB
      simp only
      omega
  · rintro ⟨h1, h2, h3, h4, h5⟩
    refine ⟨h1, h2, h3, h5, ?_⟩
    have e : meetB x.box worldB = x.box := by
      obtain ⟨s, q, t, ⟨⟨a1, a2, a3⟩, ⟨a4, a5, a6⟩⟩⟩ := x
      unfold nearB at h4
      unfold fullB at h5
      simp only at h4 h5
      unfold meetB worldB
      simp only [Bx.mk.injEq, Pt.mk.injEq]
      omega
    unfold interB
    rw [e, (empty_full _).2 h5]
    simp
theorem good_R (x : Lk) : (fieldsR x && !emptyB x.box) = true ↔ Good x := by
  unfold fieldsR nearP
  simp only [Bool.and_eq_true, Bool.not_eq_true', empty_full, Bool.or_eq_false_iff, decide_eq_false_iff_not, Bool.not_eq_false', decide_eq_true_eq]
  constructor
  · rintro ⟨⟨h1, h2, h3, h4, h5, h6, h7, h8⟩, h9⟩
    exact ⟨by omega, by omega, by omega, by unfold nearB; omega, h9⟩
  · rintro ⟨h1, h2, h3, h4, h5⟩
    unfold nearB at h4
    have h6 := h5
    unfold fullB at h6
    refine ⟨⟨by omega, by omega, by omega, by omega, by omega, by omega, ?_, ?_⟩, h5⟩ <;> omega
/-- A valid table. -/
structure VT (ls : List Lk) : Prop where
  good : ∀ y, y ∈ ls → Good y
  sorted : SortedL ls
  apart : ls.Pairwise fun a b => a.site = b.site ∨ ¬ fullB (meetB a.box b.box)
  few : ∀ s : Int, ls.countP (fun y => decide (y.site = s)) ≤ 16
theorem count_take (f : Lk → Bool) (ls : List Lk) (k : Nat) : (ls.take k).countP f ≤ ls.countP f := by
  have h := List.take_append_drop k ls
  have h2 : ls.countP f = (ls.take k).countP f + (ls.drop k).countP f := by rw [← List.countP_append, h]
  omega
theorem few_of {ls : List Lk} (h : ∀ (k : Nat) (x : Lk), ls[k]? = some x → (ls.take k).countP (fun y => decide (y.site = x.site)) < 16) (s : Int) : ls.countP (fun y => decide (y.site = s)) ≤ 16 := by
  have key : ∀ n, n ≤ ls.length → (ls.take n).countP (fun y => decide (y.site = s)) ≤ 16 := by
    intro n
    induction n with
    | zero => intro _; simp
    | succ n ih =>
      intro hn
      have hx : ls[n]? = some ls[n] := List.getElem?_eq_getElem (by omega)
      rw [countP_step hx]
      by_cases hs : ls[n].site = s
      · have h1 := h n _ hx
        rw [hs] at h1
        simp only [hs, decide_true, if_true]
        omega
      · have h1 := ih (by omega)
        simp only [hs, decide_false, Bool.false_eq_true, if_false]
        omega
  have h1 := key ls.length (Nat.le_refl _)
  rwa [List.take_length] at h1
theorem few_lt {ls : List Lk} {k : Nat} {x : Lk} (hx : ls[k]? = some x) (h : ls.countP (fun y => decide (y.site = x.site)) ≤ 16) : (ls.take k).countP (fun y => decide (y.site = x.site)) < 16 := by
  have h1 := countP_step (f := fun y => decide (y.site = x.site)) hx
  have h2 := count_take (fun y => decide (y.site = x.site)) ls (k + 1)
  simp only [decide_true, if_true] at h1
  omega
theorem pw_of {R : Lk → Lk → Prop} {ls : List Lk} (h : ∀ (i k : Nat) (y x : Lk), i < k → ls[i]? = some y → ls[k]? = some x → R y x) : ls.Pairwise R :=
  List.pairwise_iff_getElem.2 fun i j hi hj hij => h i j _ _ hij (List.getElem?_eq_getElem hi) (List.getElem?_eq_getElem hj)
theorem pw_at {R : Lk → Lk → Prop} {ls : List Lk} (h : ls.Pairwise R) {i k : Nat} {y x : Lk} (hik : i < k) (hy : ls[i]? = some y) (hx : ls[k]? = some x) : R y x := by
  obtain ⟨h1, rfl⟩ := List.getElem?_eq_some_iff.1 hy
  obtain ⟨h2, rfl⟩ := List.getElem?_eq_some_iff.1 hx
  exact List.pairwise_iff_getElem.1 h i k h1 h2 hik
theorem mem_take_at {ls : List Lk} {k : Nat} {y : Lk} (h : y ∈ ls.take k) : ∃ i, i < k ∧ ls[i]? = some y := by
  obtain ⟨i, hi⟩ := List.getElem?_of_mem h
  rw [List.getElem?_take] at hi
  split at hi
  · exact ⟨i, by assumption, hi⟩
  · cases hi
theorem at_mem_take {ls : List Lk} {i k : Nat} {y : Lk} (hi : i < k) (h : ls[i]? = some y) : y ∈ ls.take k := by
  have : (ls.take k)[i]? = some y := by rw [List.getElem?_take, if_pos hi]; exact h
  exact List.mem_of_getElem? this
theorem validR_VT (ls : List Lk) : validR ls = true ↔ VT ls := by
  rw [validR_iff]
  have hok : ∀ (k : Nat) (x : Lk), okR ls k x = true ↔ (Good x ∧ (∀ y, y ∈ ls.take k → pairR x y = true) ∧ (ls.take k).countP (fun y => decide (y.site = x.site)) < 16) := by
    intro k x
    unfold okR
    rw [← Bool.and_assoc, Bool.and_eq_true, good_R, Bool.and_eq_true, List.all_eq_true, decide_eq_true_eq]
    rfl
  constructor
  · intro h
    have h1 : ∀ (k : Nat) (x : Lk), ls[k]? = some x → Good x := fun k x hx => ((hok k x).1 (h k x hx)).1
    have h2 : ∀ (i k : Nat) (y x : Lk), i < k → ls[i]? = some y → ls[k]? = some x → pairR x y = true := fun i k y x hik hy hx => ((hok k x).1 (h k x hx)).2.1 y (at_mem_take hik hy)
    refine ⟨fun y hy => by obtain ⟨i, hi⟩ := List.getElem?_of_mem hy; exact h1 i y hi, pw_of fun i k y x hik hy hx => ?_, pw_of fun i k y x hik hy hx => ?_, few_of fun k x hx => ((hok k x).1 (h k x hx)).2.2⟩
    · have := h2 i k y x hik hy hx
      unfold pairR at this
      rw [Bool.and_eq_true] at this
      exact this.1
    · have := h2 i k y x hik hy hx
      unfold pairR at this
      simp only [Bool.and_eq_true, Bool.not_eq_true', Bool.and_eq_false_iff, decide_eq_false_iff_not] at this
      rcases this.2 with h3 | h3
      · exact .inl (by simpa using h3)
      · exact .inr fun h4 => by rw [(meetR_iff _ _ (h1 k x hx).near).2 h4] at h3; cases h3
  · rintro ⟨hg, hs, ha, hf⟩ k x hx
    rw [hok]
    refine ⟨hg x (List.mem_of_getElem? hx), fun y hy => ?_, few_lt hx (hf x.site)⟩
    obtain ⟨i, hik, hi⟩ := mem_take_at hy
    unfold pairR
    rw [pw_at hs hik hi hx]
    rcases pw_at ha hik hi hx with h3 | h3
    · simp [h3]
    · cases hm : meetR y.box x.box
      · simp
      · exact absurd ((meetR_iff _ _ (hg x (List.mem_of_getElem? hx)).near).1 hm) h3
theorem validP_VT (ls : List Lk) : validP ls = true ↔ VT ls := by
  rw [validP_iff]
  have hok : ∀ (k : Nat) (x : Lk), okV ls k x = true ↔ (Good x ∧ ordV ls k x = true ∧ (∀ y, y ∈ ls.take k → oddV y x = false) ∧ (ls.take k).countP (fun y => decide (y.site = x.site)) < 16) := by
    intro k x
    unfold okV
    rw [Bool.and_eq_true, good_V, Bool.and_eq_true, Bool.and_eq_true, Bool.not_eq_true', List.any_eq_false, decide_eq_true_eq, List.countP_eq_length_filter]
    simp only [Bool.not_eq_true]
    rfl
  constructor
  · intro h
    have h1 : ∀ (k : Nat) (x : Lk), ls[k]? = some x → Good x := fun k x hx => ((hok k x).1 (h k x hx)).1
    refine ⟨fun y hy => by obtain ⟨i, hi⟩ := List.getElem?_of_mem hy; exact h1 i y hi, ?_, pw_of fun i k y x hik hy hx => ?_, few_of fun k x hx => ((hok k x).1 (h k x hx)).2.2.2⟩
    · have hadj : ∀ (n : Nat) (y x : Lk), ls[n]? = some y → ls[n + 1]? = some x → befL y x = true := by
        intro n y x hy hx
        have h3 := ((hok _ x).1 (h (n + 1) x hx)).2.1
        unfold ordV at h3
        simp only [hy, decide_eq_true_eq] at h3
        exact (cmpL_lt y x).1 h3
      refine pw_of fun i k => ?_
      obtain ⟨d, hd⟩ : ∃ d, d = k - i := ⟨_, rfl⟩
      induction d generalizing k with
      | zero => intro y x hik; omega
      | succ d ih =>
        intro y x hik hy hx
        rcases Nat.eq_or_lt_of_le (show i + 1 ≤ k from hik) with h3 | h3
        · subst h3; exact hadj i y x hy hx
        · obtain ⟨k', rfl⟩ : ∃ k', k = k' + 1 := ⟨k - 1, by omega⟩
          have hl := (List.getElem?_eq_some_iff.1 hx).1
          have hz : ls[k']? = some ls[k'] := List.getElem?_eq_getElem (by omega)
          exact befL_trans (ih k' (by omega) y _ (by omega) hy hz) (hadj k' _ x hz hx)
    · have h3 := ((hok k x).1 (h k x hx)).2.2.1 y (at_mem_take hik hy)
      unfold oddV at h3
      rw [Bool.and_eq_false_iff, decide_eq_false_iff_not] at h3
      rcases h3 with h3 | h3
      · exact .inl (by simpa using h3)
      · exact .inr fun h4 => by rw [(meetL_iff _ _).2 (by rw [meetB_comm]; exact h4)] at h3; cases h3
  · rintro ⟨hg, hs, ha, hf⟩ k x hx
    rw [hok]
    refine ⟨hg x (List.mem_of_getElem? hx), ?_, fun y hy => ?_, few_lt hx (hf x.site)⟩
    · match k, hx with
      | 0, _ => rfl
      | n + 1, hx =>
        have hl := (List.getElem?_eq_some_iff.1 hx).1
        have hz : ls[n]? = some ls[n] := List.getElem?_eq_getElem (by omega)
        unfold ordV
        simp only [hz, decide_eq_true_eq]
        exact (cmpL_lt _ _).2 (pw_at hs (by omega) hz hx)
    · obtain ⟨i, hik, hi⟩ := mem_take_at hy
      unfold oddV
      rcases pw_at ha hik hi hx with h3 | h3
      · simp [h3]
      · cases hm : meetL x.box y.box
        · simp
        · exact absurd ((meetL_iff _ _).1 hm) (by rw [meetB_comm]; exact h3)
theorem valid_eq (ls : List Lk) : validP ls = validR ls := by
  rw [Bool.eq_iff_iff, validP_VT, validR_VT]
end Go.Proofs.YtjceebpafnnffaaDoor

namespace Go.Proofs.YtjceebpafnnffaaDoor
open Go Go.RowKit

theorem VT.sub {ls ms : List Lk} (h : VT ls) (hs : ms.Sublist ls) : VT ms :=
  ⟨fun y hy => h.good y (hs.subset hy), h.sorted.sublist hs, h.apart.sublist hs, fun s => Nat.le_trans (hs.countP_le) (h.few s)⟩
theorem VT.filter {ls : List Lk} (h : VT ls) (f : Lk → Bool) : VT (ls.filter f) := h.sub List.filter_sublist
theorem VT.nil : VT [] := ⟨by simp, List.Pairwise.nil, List.Pairwise.nil, by simp⟩
theorem isE_eq (x : Ed) (k : Int) (hw : fits x) : isE x k = isR x k := by unfold isE isR; rw [check_eq x 14 1 hw]
theorem is_facts {x : Ed} {k : Int} (h : isR x k = true) : x.kind = k ∧ formedE x = true ∧ okE x 16384 1 = true := by
  unfold isR at h
  simp only [Bool.and_eq_true, decide_eq_true_eq] at h
  refine ⟨h.1, ?_⟩
  have h2 := h.2
  unfold checkR at h2
  rw [if_pos (by decide)] at h2
  cases hf : formedE x
  · rw [hf] at h2; simp at h2
  · rw [hf] at h2
    rw [if_pos (by decide)] at h2
    refine ⟨rfl, ?_⟩
    cases ho : okE x 16384 1
    · have e : (2 : Int) ^ (14 : Int).toNat = 16384 := by decide
      rw [e, ho] at h2
      simp at h2
    · rfl
theorem lock_good {x : Ed} (h : isR x 7 = true) : Good (moreE x) ∧ x.st.tick ≤ x.size ∧ 0 ≤ x.st.tick := by
  obtain ⟨hk, hf, ho⟩ := is_facts h
  rw [formedE_def] at hf
  have hv := (validS_iff x.st).1 (by simp only [Bool.and_eq_true] at hf; exact hf.1)
  unfold okE at ho
  rw [hk] at ho
  simp only [show ¬ ((7 : Int) = 1) by decide, show ¬ ((7 : Int) = 2) by decide, show ¬ ((7 : Int) = 3) by decide, show ¬ ((7 : Int) = 4) by decide, show ¬ ((7 : Int) = 5) by decide, if_false, if_true, Bool.and_eq_true, decide_eq_true_eq] at ho
  obtain ⟨hb, h1, h2⟩ := ho
  unfold boxE at hb
  simp only [Bool.and_eq_true, Bool.not_eq_true', empty_full] at hb
  obtain ⟨he, hl, hh⟩ := hb
  unfold hiE at hh
  unfold inP cubeB at hl
  simp only [Bool.and_eq_true, decide_eq_true_eq] at hl hh
  exact ⟨⟨hv.2.2.1, hv.2.2.2, ⟨by show 0 ≤ x.size; omega, h2⟩, by unfold nearB moreE; simp only; omega, he⟩, h1, by omega⟩
theorem same_iff (x : Ed) (y : Lk) : sameF x y = true ↔ cmpL y (moreE x) = 0 := by
  rw [cmpL_eq]
  unfold sameF moreE
  simp
theorem befL_irr {a : Lk} : befL a a = false := by
  unfold befL
  simp
theorem befL_asym {a b : Lk} (h : befL a b = true) : befL b a = false := by
  cases h2 : befL b a
  · rfl
  · have := befL_trans h h2; rw [befL_irr] at this; cases this
theorem befL_tri (a b : Lk) : befL a b = true ∨ cmpL a b = 0 ∨ befL b a = true := by
  rw [cmpL_eq]
  unfold befL
  simp only [Bool.or_eq_true, Bool.and_eq_true, decide_eq_true_eq]
  omega
theorem befL_same {a b c : Lk} (h : cmpL b c = 0) : befL a b = befL a c := by
  rw [cmpL_eq] at h
  unfold befL
  rw [h.1, h.2]
theorem befL_same2 {a b c : Lk} (h : cmpL b c = 0) : befL b a = befL c a := by
  rw [cmpL_eq] at h
  unfold befL
  rw [h.1, h.2]
theorem ge_iff (a b : Lk) : 0 ≤ cmpL a b ↔ befL a b = false := by
  have := cmpL_lt a b
  cases h : befL a b
  · rw [h] at this; simp at this; simp; omega
  · rw [h] at this; simp at this; simp; omega
/-- Where the search ends: all before come before m, the one there does not. -/
theorem posP_low {lv : List Lk} {m : Lk} {i : Nat} {y : Lk} (hi : i < posP lv m) (hy : lv[i]? = some y) : befL y m = true := by
  obtain ⟨h1, rfl⟩ := List.getElem?_eq_some_iff.1 hy
  have h2 := List.not_of_lt_findIdx hi
  have h3 := ge_iff lv[i] m
  cases hb : befL lv[i] m
  · simp [h3.2 hb] at h2
  · rfl
theorem posP_at {lv : List Lk} {m : Lk} {y : Lk} (hy : lv[posP lv m]? = some y) : befL y m = false := by
  obtain ⟨h1, rfl⟩ := List.getElem?_eq_some_iff.1 hy
  have h2 := List.findIdx_getElem (w := h1)
  exact (ge_iff _ m).1 (by unfold posP; simpa using h2)
theorem posP_up {lv : List Lk} (hs : SortedL lv) {m : Lk} {i : Nat} {y : Lk} (hi : posP lv m ≤ i) (hy : lv[i]? = some y) : befL y m = false := by
  have h1 := (List.getElem?_eq_some_iff.1 hy).1
  have hz : lv[posP lv m]? = some lv[posP lv m] := List.getElem?_eq_getElem (by omega)
  have h2 := posP_at hz
  rcases Nat.eq_or_lt_of_le hi with h3 | h3
  · subst h3; rw [hz] at hy; injection hy with hy; rw [← hy]; exact h2
  · have h4 := pw_at hs h3 hz hy
    cases h5 : befL y m
    · rfl
    · rw [befL_trans h4 h5] at h2; cases h2
theorem hit_iff {lv : List Lk} (hs : SortedL lv) (m : Lk) : hitP lv m = true ↔ ∃ y, y ∈ lv ∧ cmpL y m = 0 := by
  unfold hitP
  constructor
  · intro h
    cases hq : lv[posP lv m]? with
    | none => rw [hq] at h; simp at h
    | some y => rw [hq] at h; exact ⟨y, List.mem_of_getElem? hq, by simpa using h⟩
  · rintro ⟨y, hy, hc⟩
    obtain ⟨j, hj⟩ := List.getElem?_of_mem hy
    have hjl := (List.getElem?_eq_some_iff.1 hj).1
    have hyb : befL y m = false := by rw [← befL_same hc]; exact befL_irr
    have h1 : posP lv m ≤ j := by
      rcases Nat.lt_or_ge j (posP lv m) with h | h
      · rw [posP_low h hj] at hyb; cases hyb
      · exact h
    have hz : lv[posP lv m]? = some lv[posP lv m] := List.getElem?_eq_getElem (by omega)
    have h2 : posP lv m = j := by
      rcases Nat.eq_or_lt_of_le h1 with h | h
      · exact h
      · have h3 := pw_at hs h hz hj
        rw [befL_same hc, posP_at hz] at h3
        cases h3
    rw [h2, hj]
    simp [hc]
theorem posR_le (m : Lk) (lv : List Lk) (n : Nat) : posR m lv n ≤ n := by
  induction n with
  | zero => exact Nat.le_refl _
  | succ n ih =>
    unfold posR
    split
    · split <;> omega
    · omega
theorem posR_up (m : Lk) (lv : List Lk) (n : Nat) (hn : n ≤ lv.length) : ∀ (i : Nat) (y : Lk), posR m lv n ≤ i → i < n → lv[i]? = some y → befL m y = true := by
  induction n with
  | zero => intro i y _ hi; omega
  | succ n ih =>
    intro i y h1 h2 hy
    have hz : lv[n]? = some lv[n] := List.getElem?_eq_getElem (by omega)
    unfold posR at h1
    simp only [hz] at h1
    cases hb : befL m lv[n]
    · rw [hb] at h1; simp at h1; omega
    · rw [hb] at h1
      simp only [if_true] at h1
      rcases Nat.lt_succ_iff_lt_or_eq.1 h2 with h3 | h3
      · exact ih (by omega) i y h1 h3 hy
      · subst h3; rw [hz] at hy; injection hy with hy; rw [← hy]; exact hb
theorem posR_low (m : Lk) (lv : List Lk) (n : Nat) (hn : n ≤ lv.length) : ∀ (r : Nat) (y : Lk), posR m lv n = r + 1 → lv[r]? = some y → befL m y = false := by
  induction n with
  | zero => intro r y h; cases h
  | succ n ih =>
    intro r y h1 hy
    have hz : lv[n]? = some lv[n] := List.getElem?_eq_getElem (by omega)
    unfold posR at h1
    simp only [hz] at h1
    cases hb : befL m lv[n]
    · rw [hb] at h1; simp at h1; subst h1; rw [hz] at hy; injection hy with hy; rw [← hy]; exact hb
    · rw [hb] at h1; simp only [if_true] at h1; exact ih (by omega) r y h1 hy
theorem pos_eq {lv : List Lk} (hs : SortedL lv) (m : Lk) (hn : hitP lv m = false) : posP lv m = posR m lv lv.length := by
  have hno : ∀ y, y ∈ lv → cmpL y m ≠ 0 := fun y hy hc => by rw [(hit_iff hs m).2 ⟨y, hy, hc⟩] at hn; cases hn
  have hl := posP_le lv m
  have hr := posR_le m lv lv.length
  rcases Nat.lt_trichotomy (posR m lv lv.length) (posP lv m) with h | h | h
  · have hz : lv[posR m lv lv.length]? = some lv[posR m lv lv.length] := List.getElem?_eq_getElem (by omega)
    have h1 := posP_low h hz
    have h2 := posR_up m lv lv.length (Nat.le_refl _) _ _ (Nat.le_refl _) (by omega) hz
    rw [befL_asym h1] at h2; cases h2
  · exact h.symm
  · obtain ⟨r, hr2⟩ : ∃ r, posR m lv lv.length = r + 1 := ⟨posR m lv lv.length - 1, by omega⟩
    have hz : lv[r]? = some lv[r] := List.getElem?_eq_getElem (by omega)
    have h1 := posR_low m lv lv.length (Nat.le_refl _) r _ hr2 hz
    have h2 := posP_up hs (m := m) (by omega) hz
    rcases befL_tri lv[r] m with h3 | h3 | h3
    · rw [h3] at h2; cases h2
    · exact absurd h3 (hno _ (List.getElem_mem _))
    · rw [h3] at h1; cases h1
theorem any_same {lv : List Lk} (hs : SortedL lv) (x : Ed) : hitP lv (moreE x) = lv.any (sameF x) := by
  rw [Bool.eq_iff_iff, hit_iff hs, List.any_eq_true]
  simp only [same_iff]
theorem any_odd {lv : List Lk} {x : Ed} (hg : Good (moreE x)) : lv.any (fun y => oddL y (moreE x).site (moreE x).box) = lv.any (metF x) := by
  congr 1
  funext y
  unfold oddL metF
  have h1 := meetL_iff y.box (moreE x).box
  have h2 := meetR_iff y.box (moreE x).box hg.near
  have h3 : meetL y.box x.box = meetR y.box x.box := by
    rw [Bool.eq_iff_iff]
    exact h1.trans h2.symm
  show (decide (y.site ≠ x.st.site) && meetL y.box x.box) = _
  rw [h3]
theorem take_eq {ls : List Lk} {x : Ed} (hv : VT ls) (hw : fits x) : takeP ls x = takeR ls x := by
  unfold takeP takeR
  rw [isE_eq x 7 hw]
  cases hk : isR x 7
  · rfl
  · have hg := (lock_good hk).1
    have hs := (hv.filter (livesL x.st.tick)).sorted
    simp only [if_true]
    rw [any_same hs, any_odd hg, ← List.countP_eq_length_filter]
    cases h : (ls.filter (livesL x.st.tick)).any (sameF x)
    · rw [pos_eq hs _ (by rw [any_same hs]; exact h)]
      rfl
    · rfl
theorem free_eq {ls : List Lk} {x : Ed} (hv : VT ls) (hw : fits x) : freeP ls x = freeR ls x := by
  unfold freeP freeR
  rw [isE_eq x 8 hw]
  cases hk : isR x 8
  · rfl
  · have hs := (hv.filter (livesL x.st.tick)).sorted
    generalize ls.filter (livesL x.st.tick) = lv at hs
    simp only [if_true]
    have hkf : ∀ y, keepF x y = false ↔ cmpL y (oldE x) = 0 := by
      intro y
      rw [cmpL_eq]
      unfold keepF oldE
      simp
    cases hh : hitP lv (oldE x)
    · have : lv.filter (keepF x) = lv := by
        rw [List.filter_eq_self]
        intro y hy
        cases hq : keepF x y
        · rw [(hit_iff hs _).2 ⟨y, hy, (hkf y).1 hq⟩] at hh; cases hh
        · rfl
      rw [this]
      simp
    · have hlt := hitP_lt hh
      have hz : lv[posP lv (oldE x)]? = some lv[posP lv (oldE x)] := List.getElem?_eq_getElem hlt
      have hc : cmpL lv[posP lv (oldE x)] (oldE x) = 0 := by
        unfold hitP at hh
        rw [hz] at hh
        simpa using hh
      have hsplit : lv = lv.take (posP lv (oldE x)) ++ lv[posP lv (oldE x)] :: lv.drop (posP lv (oldE x) + 1) := by
        rw [List.getElem_cons_drop, List.take_append_drop]
      have hfil : lv.filter (keepF x) = lv.take (posP lv (oldE x)) ++ lv.drop (posP lv (oldE x) + 1) := by
        have h1 : (lv.take (posP lv (oldE x))).filter (keepF x) = lv.take (posP lv (oldE x)) := by
          rw [List.filter_eq_self]
          intro y hy
          obtain ⟨i, hi, hy⟩ := mem_take_at hy
          cases hq : keepF x y
          · have h2 := posP_low hi hy
            rw [← befL_same ((hkf y).1 hq), befL_irr] at h2
            cases h2
          · rfl
        have h2 : (lv.drop (posP lv (oldE x) + 1)).filter (keepF x) = lv.drop (posP lv (oldE x) + 1) := by
          rw [List.filter_eq_self]
          intro y hy
          obtain ⟨i, hi⟩ := List.getElem?_of_mem hy
          rw [List.getElem?_drop] at hi
          cases hq : keepF x y
          · have h3 := pw_at hs (show posP lv (oldE x) < posP lv (oldE x) + 1 + i by omega) hz hi
            rw [befL_same ((hkf y).1 hq), befL_same2 hc, befL_irr] at h3
            cases h3
          · rfl
        conv => lhs; rw [hsplit]
        rw [List.filter_append, List.filter_cons, h1, h2, (hkf _).2 hc]
        simp
      rw [hfil, if_pos rfl, if_neg]
      rw [List.length_append, List.length_take, List.length_drop]; omega
theorem free_VT {ls : List Lk} {x : Ed} (hv : VT ls) : VT (freeR ls x).1 := by
  unfold freeR
  split
  · split
    · exact VT.nil
    · exact (hv.filter _).filter _
  · exact VT.nil
theorem mem_ins {lv : List Lk} {p : Nat} {m y : Lk} : y ∈ insL lv p m ↔ y = m ∨ y ∈ lv := by
  unfold insL
  have h := List.take_append_drop p lv
  rw [List.mem_append, List.mem_cons]
  conv => rhs; rw [← h, List.mem_append]
  constructor
  · rintro (h | h | h)
    · exact .inr (.inl h)
    · exact .inl h
    · exact .inr (.inr h)
  · rintro (h | h | h)
    · exact .inr (.inl h)
    · exact .inl h
    · exact .inr (.inr h)
theorem pw_ins {R : Lk → Lk → Prop} {lv : List Lk} {p : Nat} {m : Lk} (h : lv.Pairwise R) (h1 : ∀ y, y ∈ lv.take p → R y m) (h2 : ∀ y, y ∈ lv.drop p → R m y) : (insL lv p m).Pairwise R := by
  unfold insL
  have h3 := h
  rw [← List.take_append_drop p lv, List.pairwise_append] at h3
  rw [List.pairwise_append, List.pairwise_cons]
  refine ⟨h3.1, ⟨h2, h3.2.1⟩, fun a ha b hb => ?_⟩
  rcases List.mem_cons.1 hb with rfl | hb
  · exact h1 a ha
  · exact h3.2.2 a ha b hb
theorem count_ins (f : Lk → Bool) (lv : List Lk) (p : Nat) (m : Lk) : (insL lv p m).countP f = lv.countP f + if f m then 1 else 0 := by
  unfold insL
  have h := List.take_append_drop p lv
  conv => rhs; rw [← h]
  rw [List.countP_append, List.countP_append, List.countP_cons]
  omega
theorem ins_VT {lv : List Lk} {x : Ed} (hv : VT lv) (hg : Good (moreE x)) (h1 : lv.any (sameF x) = false) (h2 : lv.any (metF x) = false) (h3 : lv.countP (fun y => decide (y.site = x.st.site)) < 16) : VT (insL lv (posP lv (moreE x)) (moreE x)) := by
  have hno : ∀ y, y ∈ lv → cmpL y (moreE x) ≠ 0 := fun y hy hc => by
    rw [List.any_eq_false] at h1
    exact h1 y hy ((same_iff x y).2 hc)
  have hap : ∀ y, y ∈ lv → y.site = (moreE x).site ∨ ¬ fullB (meetB y.box (moreE x).box) := fun y hy => by
    rw [List.any_eq_false] at h2
    have := h2 y hy
    unfold metF at this
    simp only [Bool.and_eq_true, decide_eq_true_eq, not_and, Bool.not_eq_true] at this
    by_cases hs : y.site = x.st.site
    · exact .inl hs
    · refine .inr fun hf => ?_
      have h4 := this hs
      have h5 : meetR y.box x.box = true := (meetR_iff y.box (moreE x).box hg.near).2 hf
      rw [h5] at h4
      cases h4
  refine ⟨fun y hy => ?_, ?_, ?_, fun s => ?_⟩
  · rcases mem_ins.1 hy with rfl | hy
    · exact hg
    · exact hv.good y hy
  · refine pw_ins hv.sorted (fun y hy => ?_) (fun y hy => ?_)
    · obtain ⟨i, hi, hy⟩ := mem_take_at hy
      exact posP_low hi hy
    · obtain ⟨i, hi⟩ := List.getElem?_of_mem hy
      rw [List.getElem?_drop] at hi
      have h4 := posP_up hv.sorted (m := moreE x) (by omega) hi
      rcases befL_tri y (moreE x) with h5 | h5 | h5
      · rw [h5] at h4; cases h4
      · exact absurd h5 (hno y (List.mem_of_getElem? hi))
      · exact h5
  · refine pw_ins hv.apart (fun y hy => hap y (List.mem_of_mem_take hy)) (fun y hy => ?_)
    rcases hap y (List.mem_of_mem_drop hy) with h4 | h4
    · exact .inl h4.symm
    · exact .inr (by rw [meetB_comm]; exact h4)
  · rw [count_ins]
    have h4 := hv.few s
    by_cases hs : x.st.site = s
    · rw [hs] at h3
      simp only [moreE, hs, decide_true, if_true]
      omega
    · simp only [moreE, hs, decide_false, Bool.false_eq_true, if_false]
      omega
theorem take_VT {ls : List Lk} {x : Ed} (hv : VT ls) : VT (takeR ls x).1 := by
  unfold takeR
  cases hk : isR x 7
  · exact VT.nil
  · have hl := hv.filter (livesL x.st.tick)
    simp only [if_true]
    cases h1 : (ls.filter (livesL x.st.tick)).any (sameF x)
    · cases h2 : (ls.filter (livesL x.st.tick)).any (metF x)
      · by_cases h3 : 16 ≤ (ls.filter (livesL x.st.tick)).countP (fun y => decide (y.site = x.st.site))
        · simp only [Bool.false_eq_true, if_false, if_pos h3]; exact VT.nil
        · simp only [Bool.false_eq_true, if_false, if_neg h3]
          rw [← pos_eq hl.sorted _ (by rw [any_same hl.sorted]; exact h1)]
          exact ins_VT hl (lock_good hk).1 h1 h2 (by omega)
      · simp only [Bool.false_eq_true, if_false, if_true]; exact VT.nil
    · simp only [if_true]; exact VT.nil
end Go.Proofs.YtjceebpafnnffaaDoor

namespace Go.Proofs.YtjceebpafnnffaaDoor
open Go Go.RowKit

/-- y holds the cell p on this tick. -/
def holdsL (now : Int) (p : Pt) (y : Lk) : Bool := livesL now y && inP p y.box
theorem in_touch {p : Pt} {a b : Bx} (ha : inP p a = true) (hb : inP p b = true) : fullB (meetB a b) := by
  unfold inP at ha hb
  simp only [Bool.and_eq_true, decide_eq_true_eq] at ha hb
  unfold fullB meetB
  simp only
  omega
theorem VT.one {ls : List Lk} (h : VT ls) {y z : Lk} (hy : y ∈ ls) (hz : z ∈ ls) {p : Pt} (h1 : inP p y.box = true) (h2 : inP p z.box = true) : y.site = z.site := by
  obtain ⟨i, hi⟩ := List.getElem?_of_mem hy
  obtain ⟨j, hj⟩ := List.getElem?_of_mem hz
  rcases Nat.lt_trichotomy i j with h3 | h3 | h3
  · rcases pw_at h.apart h3 hi hj with h4 | h4
    · exact h4
    · exact absurd (in_touch h1 h2) h4
  · subst h3; rw [hi] at hj; injection hj with hj; rw [hj]
  · rcases pw_at h.apart h3 hj hi with h4 | h4
    · exact h4.symm
    · exact absurd (in_touch h2 h1) h4
theorem owner_def (ls : List Lk) (now : Int) (p : Pt) : ownerL ls now p = match ls.find? (holdsL now p) with | some x => x.site | none => 0 := by
  unfold ownerL
  rw [List.find?_filter]
  have e : (fun a : Lk => decide (livesL now a = true ∧ inP p a.box = true)) = holdsL now p := by
    funext a
    unfold holdsL
    rw [Bool.eq_iff_iff]
    simp
  rw [e]
  cases ls.find? (holdsL now p) <;> rfl
theorem owner_of {ls : List Lk} (h : VT ls) {now : Int} {p : Pt} {y : Lk} (hy : y ∈ ls) (hh : holdsL now p y = true) : ownerL ls now p = y.site := by
  rw [owner_def]
  cases hf : ls.find? (holdsL now p) with
  | none => rw [List.find?_eq_none] at hf; exact absurd hh (hf y hy)
  | some z =>
    have h1 := List.find?_some hf
    have h2 := List.mem_of_find?_eq_some hf
    unfold holdsL at h1 hh
    rw [Bool.and_eq_true] at h1 hh
    exact h.one h2 hy h1.2 hh.2
theorem owner_none {ls : List Lk} {now : Int} {p : Pt} (h : ∀ y, y ∈ ls → holdsL now p y = false) : ownerL ls now p = 0 := by
  rw [owner_def, List.find?_eq_none.2 (fun y hy => by rw [h y hy]; simp)]
theorem owner_or (ls : List Lk) (now : Int) (p : Pt) : (∀ y, y ∈ ls → holdsL now p y = false) ∨ ∃ y, y ∈ ls ∧ holdsL now p y = true := by
  by_cases h : ∃ y, y ∈ ls ∧ holdsL now p y = true
  · exact .inr h
  · exact .inl fun y hy => by
      cases hq : holdsL now p y
      · rfl
      · exact absurd ⟨y, hy, hq⟩ h
theorem owner_pos {ls : List Lk} (h : VT ls) {now : Int} {p : Pt} (ho : ownerL ls now p ≠ 0) : ∃ y, y ∈ ls ∧ holdsL now p y = true ∧ ownerL ls now p = y.site := by
  rcases owner_or ls now p with h1 | ⟨y, hy, hh⟩
  · exact absurd (owner_none h1) ho
  · exact ⟨y, hy, hh, owner_of h hy hh⟩
theorem owner_congr {ls ms : List Lk} (h : VT ls) (k : VT ms) {now : Int} {p : Pt} (he : ∀ y, holdsL now p y = true → (y ∈ ls ↔ y ∈ ms)) : ownerL ls now p = ownerL ms now p := by
  rcases owner_or ls now p with h1 | ⟨y, hy, hh⟩
  · rw [owner_none h1, owner_none]
    intro y hy
    cases hq : holdsL now p y
    · rfl
    · have := h1 y ((he y hq).2 hy); rw [hq] at this; cases this
  · rw [owner_of h hy hh, owner_of k ((he y hh).1 hy) hh]
theorem owner_site {ls : List Lk} (h : VT ls) {y : Lk} (hy : y ∈ ls) : y.site ≠ 0 := by have := (h.good y hy).site; omega
theorem hit_blocks {ls : List Lk} (h : VT ls) (site now : Int) (x : Chg) : hitL ((ls.filter (livesL now)).filter (otherL site)) x = blocksL ls site now x.at_ := by
  unfold hitL blocksL
  rw [Bool.eq_iff_iff, List.any_eq_true, Bool.and_eq_true, decide_eq_true_eq, decide_eq_true_eq]
  constructor
  · rintro ⟨y, hy, hp⟩
    rw [List.mem_filter, List.mem_filter] at hy
    obtain ⟨⟨hy, hl⟩, ho⟩ := hy
    have h1 := owner_of h (now := now) (p := x.at_) hy (by unfold holdsL; rw [hl, hp]; rfl)
    rw [h1]
    exact ⟨owner_site h hy, by unfold otherL at ho; simpa using ho⟩
  · rintro ⟨h1, h2⟩
    obtain ⟨y, hy, hh, ho⟩ := owner_pos h h1
    unfold holdsL at hh
    rw [Bool.and_eq_true] at hh
    refine ⟨y, List.mem_filter.2 ⟨List.mem_filter.2 ⟨hy, hh.1⟩, ?_⟩, hh.2⟩
    unfold otherL
    rw [← ho]
    simpa using h2
theorem blocked_eq {ls : List Lk} (h : VT ls) (site now : Int) (cs : List Chg) : blockedL ls site now cs = blockedR ls site now cs := by
  unfold blockedL blockedR
  congr 1
  funext x
  exact hit_blocks h site now x
/-- What Take gives when it accepts. -/
theorem take_ok {ls : List Lk} {x : Ed} (h : (takeR ls x).2 = 0) : isR x 7 = true ∧ (ls.filter (livesL x.st.tick)).any (sameF x) = false ∧
    takeR ls x = (insL (ls.filter (livesL x.st.tick)) (posR (moreE x) (ls.filter (livesL x.st.tick)) (ls.filter (livesL x.st.tick)).length) (moreE x), 0) := by
  unfold takeR at h ⊢
  cases h0 : isR x 7
  · rw [h0] at h; simp at h
  · rw [h0] at h
    simp only [if_true] at h ⊢
    cases h1 : (ls.filter (livesL x.st.tick)).any (sameF x)
    · rw [h1] at h
      cases h2 : (ls.filter (livesL x.st.tick)).any (metF x)
      · rw [h2] at h
        by_cases h3 : 16 ≤ (ls.filter (livesL x.st.tick)).countP (fun y => decide (y.site = x.st.site))
        · simp only [Bool.false_eq_true, if_false, if_pos h3] at h; exact absurd h (by decide)
        · simp [if_neg h3]
      · rw [h2] at h; simp at h
    · rw [h1] at h; simp at h
theorem take_none {ls : List Lk} {x : Ed} (h : (takeR ls x).2 ≠ 0) : (takeR ls x).1 = [] := by
  unfold takeR at h ⊢
  split
  · rename_i h0
    rw [if_pos h0] at h
    split
    · rfl
    · rename_i h1
      rw [if_neg h1] at h
      split
      · rfl
      · rename_i h2
        rw [if_neg h2] at h
        split
        · rfl
        · rename_i h3
          rw [if_neg h3] at h
          exact absurd rfl h
  · rfl
theorem free_none {ls : List Lk} {x : Ed} (h : (freeR ls x).2 ≠ 0) : (freeR ls x).1 = [] := by
  unfold freeR at h ⊢
  split
  · rename_i h0
    rw [if_pos h0] at h
    split
    · rfl
    · rename_i h1
      rw [if_neg h1] at h
      exact absurd rfl h
  · rfl
theorem take_free {ls ms : List Lk} {x : Ed} (h : (takeR ls x).2 = 0) (k : (freeR ms x).2 = 0) : False := by
  have h1 := (is_facts (take_ok h).1).1
  unfold freeR at k
  cases h0 : isR x 8
  · rw [h0] at k; simp at k
  · have h2 := (is_facts h0).1
    omega
theorem take_len1 (ls : List Lk) (x : Ed) : (takeR ls x).1.length ≤ ls.length + 1 := by
  by_cases h : (takeR ls x).2 = 0
  · rw [(take_ok h).2.2]
    have := filter_len (livesL x.st.tick) ls
    unfold insL
    simp only [List.length_append, List.length_cons, List.length_take, List.length_drop]
    omega
  · rw [take_none h]; simp
theorem free_len1 (ls : List Lk) (x : Ed) : (freeR ls x).1.length ≤ ls.length := by
  unfold freeR
  split
  · split
    · simp
    · exact Nat.le_trans (filter_len _ _) (filter_len _ _)
  · simp
theorem take_mem {ls : List Lk} {x : Ed} (h : (takeR ls x).2 = 0) (y : Lk) : y ∈ (takeR ls x).1 ↔ y = moreE x ∨ (y ∈ ls ∧ x.st.tick ≤ y.til) := by
  rw [(take_ok h).2.2]
  simp only
  rw [mem_ins, List.mem_filter]
  unfold livesL
  rw [decide_eq_true_eq]
/-- The cells of the box are blocked. -/
theorem take_blocks {ls : List Lk} {x : Ed} (hv : VT ls) (h : (takeR ls x).2 = 0) {now : Int} {p : Pt} (hp : inP p x.box = true) (ht : now ≤ x.size) : ownerL (takeR ls x).1 now p = x.st.site := by
  have := owner_of (take_VT (x := x) hv) (now := now) (p := p) ((take_mem h (moreE x)).2 (.inl rfl)) (by unfold holdsL livesL moreE; simp only [Bool.and_eq_true, decide_eq_true_eq]; exact ⟨ht, hp⟩)
  exact this
theorem take_site {ls : List Lk} {x : Ed} (h : (takeR ls x).2 = 0) : 1 ≤ x.st.site ∧ x.st.site ≤ 8 := (lock_good (take_ok h).1).1.site
/-- Where the new lock does not hold the cell, the owner is the old one. -/
theorem take_else {ls : List Lk} {x : Ed} (hv : VT ls) (h : (takeR ls x).2 = 0) {now : Int} {p : Pt} (hn : x.st.tick ≤ now) (hp : ¬ (inP p x.box = true ∧ now ≤ x.size)) : ownerL (takeR ls x).1 now p = ownerL ls now p := by
  refine owner_congr (take_VT hv) hv fun y hy => ?_
  unfold holdsL livesL at hy
  rw [Bool.and_eq_true, decide_eq_true_eq] at hy
  rw [take_mem h]
  constructor
  · rintro (rfl | ⟨h1, _⟩)
    · exact absurd ⟨hy.2, hy.1⟩ hp
    · exact h1
  · exact fun h1 => .inr ⟨h1, by omega⟩
/-- The edit that frees what x has locked. -/
def undoE (x : Ed) : Ed := ⟨⟨x.st.tick, 5, x.st.site, x.st.seq + 1⟩, 8, zeroBx, zeroPt, 0, 0, x.st.seq⟩
theorem undo_is {x : Ed} (h : isR x 7 = true) (hs : x.st.seq < 1000) : isR (undoE x) 8 = true := by
  obtain ⟨hk, hf, ho⟩ := is_facts h
  rw [formedE_def] at hf
  have hv := (validS_iff x.st).1 (by simp only [Bool.and_eq_true] at hf; exact hf.1)
  have h1 : formedE (undoE x) = true := by
    rw [formedE_def]
    have h2 : validS (undoE x).st = true := (validS_iff _).2 ⟨hv.1, by unfold undoE; simp, hv.2.2.1, by show 1 ≤ x.st.seq + 1 ∧ x.st.seq + 1 ≤ 1000; omega⟩
    rw [h2]
    simp [undoE, usesF]
  have h2 : okE (undoE x) 16384 1 = true := by
    unfold okE undoE
    simp only [show ¬ ((8 : Int) = 1) by decide, show ¬ ((8 : Int) = 2) by decide, show ¬ ((8 : Int) = 3) by decide, show ¬ ((8 : Int) = 4) by decide, show ¬ ((8 : Int) = 5) by decide, show ¬ ((8 : Int) = 7) by decide, if_false, Bool.and_eq_true, decide_eq_true_eq]
    omega
  unfold isR checkR
  rw [if_pos (by decide), h1, if_pos (by decide), show (2 : Int) ^ (14 : Int).toNat = 16384 by decide, h2]
  rfl
theorem filter_id {f : Lk → Bool} {ls : List Lk} (h : ∀ y, y ∈ ls → f y = true) : ls.filter f = ls := List.filter_eq_self.2 h
theorem keep_undo (x : Ed) (y : Lk) : keepF (undoE x) y = !sameF x y := by
  unfold keepF undoE sameF
  rw [Bool.eq_iff_iff]
  simp only [Bool.or_eq_true, decide_eq_true_eq, Bool.not_eq_true', Bool.and_eq_false_iff, decide_eq_false_iff_not]
theorem undo_facts {ls : List Lk} {x : Ed} (h : (takeR ls x).2 = 0) (hs : x.st.seq < 1000) :
    freeR (takeR ls x).1 (undoE x) = (ls.filter (livesL x.st.tick), 0) ∧ (freeR (ls.filter (livesL x.st.tick)) (undoE x)).2 = 9 ∧ (takeR (takeR ls x).1 x).2 = 10 := by
  obtain ⟨h7, hno, htk⟩ := take_ok h
  obtain ⟨hg, hl, h0⟩ := lock_good h7
  have h8 := undo_is h7 hs
  rw [List.any_eq_false] at hno
  have hlv : ∀ y, y ∈ ls.filter (livesL x.st.tick) → livesL x.st.tick y = true := fun y hy => (List.mem_filter.1 hy).2
  have hm : livesL x.st.tick (moreE x) = true := by unfold livesL moreE; simpa using hl
  have hsm : sameF x (moreE x) = true := by unfold sameF moreE; simp
  have hkeep : ∀ y, y ∈ ls.filter (livesL x.st.tick) → keepF (undoE x) y = true := fun y hy => by rw [keep_undo]; have := hno y hy; simpa using this
  have htick : (undoE x).st.tick = x.st.tick := rfl
  rw [htk]
  simp only
  generalize ls.filter (livesL x.st.tick) = lv at hlv hkeep
  generalize posR (moreE x) lv lv.length = q
  have hall : ∀ y, y ∈ insL lv q (moreE x) → livesL x.st.tick y = true := fun y hy => by
    rcases mem_ins.1 hy with rfl | hy
    · exact hm
    · exact hlv y hy
  have hf : (insL lv q (moreE x)).filter (keepF (undoE x)) = lv := by
    unfold insL
    rw [List.filter_append, List.filter_cons, keep_undo, hsm, filter_id (fun y hy => hkeep y (List.mem_of_mem_take hy)), filter_id (fun y hy => hkeep y (List.mem_of_mem_drop hy))]
    simp
  refine ⟨?_, ?_, ?_⟩
  · unfold freeR
    rw [h8, if_pos rfl, htick, filter_id hall, hf, if_neg]
    unfold insL
    simp only [List.length_append, List.length_cons, List.length_take, List.length_drop]
    omega
  · unfold freeR
    rw [h8, if_pos rfl, htick, filter_id hlv, filter_id hkeep, if_pos rfl]
  · unfold takeR
    rw [h7, if_pos rfl, filter_id hall, if_pos]
    rw [List.any_eq_true]
    exact ⟨moreE x, mem_ins.2 (.inl rfl), hsm⟩
end Go.Proofs.YtjceebpafnnffaaDoor

namespace Go.Proofs.YtjceebpafnnffaaDoor
open Go Go.RowKit

def takeE (tick site seq : Int) (b : Bx) (til : Int) : Ed := ⟨⟨tick, 5, site, seq⟩, 7, b, zeroPt, 0, 0, til⟩
def freeE (tick site seq old : Int) : Ed := ⟨⟨tick, 5, site, seq⟩, 8, zeroBx, zeroPt, 0, 0, old⟩
def zeroEd : Ed := ⟨⟨0, 0, 0, 0⟩, 0, zeroBx, zeroPt, 0, 0, 0⟩
set_option maxRecDepth 100000 in
set_option maxHeartbeats 2000000 in
theorem lawtake_any (tick site seq : Int) (b : Bx) (til : Int) (w : World) :
    Calls Tryd.prog 29 #[.int .i64 tick, .int .i64 site, .int .i64 seq, .agg #[.int .i64 b.lo.x, .int .i64 b.lo.y, .int .i64 b.lo.z, .int .i64 b.hi.x, .int .i64 b.hi.y, .int .i64 b.hi.z], .int .i64 til] w fun e w' => e = .returned (.agg #[.int .i64 (takeE tick site seq b til).st.tick, .int .i64 (takeE tick site seq b til).st.clock, .int .i64 (takeE tick site seq b til).st.site, .int .i64 (takeE tick site seq b til).st.seq, .int .i64 (takeE tick site seq b til).kind, .int .i64 (takeE tick site seq b til).box.lo.x, .int .i64 (takeE tick site seq b til).box.lo.y, .int .i64 (takeE tick site seq b til).box.lo.z, .int .i64 (takeE tick site seq b til).box.hi.x, .int .i64 (takeE tick site seq b til).box.hi.y, .int .i64 (takeE tick site seq b til).box.hi.z, .int .i64 (takeE tick site seq b til).at_.x, .int .i64 (takeE tick site seq b til).at_.y, .int .i64 (takeE tick site seq b til).at_.z, .int .i64 (takeE tick site seq b til).turn, .int .i64 (takeE tick site seq b til).cell, .int .i64 (takeE tick site seq b til).size]) ∧ Ext w w' := by
  have B0 := Arr.new (w.alloc (.cells #[.int .i64 b.lo.x, .int .i64 b.lo.y, .int .i64 b.lo.z, .int .i64 b.hi.x, .int .i64 b.hi.y, .int .i64 b.hi.z] 28)) 30 [.int .i64 zeroEd.st.tick, .int .i64 zeroEd.st.clock, .int .i64 zeroEd.st.site, .int .i64 zeroEd.st.seq, .int .i64 zeroEd.kind, .int .i64 zeroEd.box.lo.x, .int .i64 zeroEd.box.lo.y, .int .i64 zeroEd.box.lo.z, .int .i64 zeroEd.box.hi.x, .int .i64 zeroEd.box.hi.y, .int .i64 zeroEd.box.hi.z, .int .i64 zeroEd.at_.x, .int .i64 zeroEd.at_.y, .int .i64 zeroEd.at_.z, .int .i64 zeroEd.turn, .int .i64 zeroEd.cell, .int .i64 zeroEd.size]
  have B1 := (Arr.new w 28 [.int .i64 b.lo.x, .int .i64 b.lo.y, .int .i64 b.lo.z, .int .i64 b.hi.x, .int .i64 b.hi.y, .int .i64 b.hi.z]).alloc (.cells #[.int .i64 zeroEd.st.tick, .int .i64 zeroEd.st.clock, .int .i64 zeroEd.st.site, .int .i64 zeroEd.st.seq, .int .i64 zeroEd.kind, .int .i64 zeroEd.box.lo.x, .int .i64 zeroEd.box.lo.y, .int .i64 zeroEd.box.lo.z, .int .i64 zeroEd.box.hi.x, .int .i64 zeroEd.box.hi.y, .int .i64 zeroEd.box.hi.z, .int .i64 zeroEd.at_.x, .int .i64 zeroEd.at_.y, .int .i64 zeroEd.at_.z, .int .i64 zeroEd.turn, .int .i64 zeroEd.cell, .int .i64 zeroEd.size] 30)
  simp only [World.size_alloc_] at B0
  have HB0 := Lib.hid B0
  have HB1 := Lib.hid B1
  clear B0 B1
  go_enter Tryd.func29, Tryd.ntmps29
  go_wp2_with (first | (refine wpList_load_blk 28 (.tmp 8) rfl rfl HB1.out rfl _ Tryd.underlying28 rfl (by kernel_rfl) ?_) | (refine wpList_load_blk 28 (.tmp 8) rfl rfl (HB1.out.alloc _) rfl _ Tryd.underlying28 rfl (by kernel_rfl) ?_) | (refine wpList_load_blk 28 (.tmp 8) rfl rfl ((HB1.out.alloc _).alloc _) rfl _ Tryd.underlying28 rfl (by kernel_rfl) ?_) | (refine wpList_store_blk 30 (.tmp 10) (.tmp 17) rfl rfl HB0.out [.int .i64 (takeE tick site seq b til).st.tick, .int .i64 (takeE tick site seq b til).st.clock, .int .i64 (takeE tick site seq b til).st.site, .int .i64 (takeE tick site seq b til).st.seq, .int .i64 (takeE tick site seq b til).kind, .int .i64 (takeE tick site seq b til).box.lo.x, .int .i64 (takeE tick site seq b til).box.lo.y, .int .i64 (takeE tick site seq b til).box.lo.z, .int .i64 (takeE tick site seq b til).box.hi.x, .int .i64 (takeE tick site seq b til).box.hi.y, .int .i64 (takeE tick site seq b til).box.hi.z, .int .i64 (takeE tick site seq b til).at_.x, .int .i64 (takeE tick site seq b til).at_.y, .int .i64 (takeE tick site seq b til).at_.z, .int .i64 (takeE tick site seq b til).turn, .int .i64 (takeE tick site seq b til).cell, .int .i64 (takeE tick site seq b til).size] rfl rfl (by kernel_rfl) rfl rfl ?_))
  have B2 := HB0.out.setRow [.int .i64 (takeE tick site seq b til).st.tick, .int .i64 (takeE tick site seq b til).st.clock, .int .i64 (takeE tick site seq b til).st.site, .int .i64 (takeE tick site seq b til).st.seq, .int .i64 (takeE tick site seq b til).kind, .int .i64 (takeE tick site seq b til).box.lo.x, .int .i64 (takeE tick site seq b til).box.lo.y, .int .i64 (takeE tick site seq b til).box.lo.z, .int .i64 (takeE tick site seq b til).box.hi.x, .int .i64 (takeE tick site seq b til).box.hi.y, .int .i64 (takeE tick site seq b til).box.hi.z, .int .i64 (takeE tick site seq b til).at_.x, .int .i64 (takeE tick site seq b til).at_.y, .int .i64 (takeE tick site seq b til).at_.z, .int .i64 (takeE tick site seq b til).turn, .int .i64 (takeE tick site seq b til).cell, .int .i64 (takeE tick site seq b til).size]
  (try simp only [Exit.inBlock, Exit.then])
  refine bodyPost_ret (v := .agg #[.int .i64 (takeE tick site seq b til).st.tick, .int .i64 (takeE tick site seq b til).st.clock, .int .i64 (takeE tick site seq b til).st.site, .int .i64 (takeE tick site seq b til).st.seq, .int .i64 (takeE tick site seq b til).kind, .int .i64 (takeE tick site seq b til).box.lo.x, .int .i64 (takeE tick site seq b til).box.lo.y, .int .i64 (takeE tick site seq b til).box.lo.z, .int .i64 (takeE tick site seq b til).box.hi.x, .int .i64 (takeE tick site seq b til).box.hi.y, .int .i64 (takeE tick site seq b til).box.hi.z, .int .i64 (takeE tick site seq b til).at_.x, .int .i64 (takeE tick site seq b til).at_.y, .int .i64 (takeE tick site seq b til).at_.z, .int .i64 (takeE tick site seq b til).turn, .int .i64 (takeE tick site seq b til).cell, .int .i64 (takeE tick site seq b til).size]) ?_ rfl ⟨rfl, (by repeat (first | with_reducible exact Ext.refl _ | with_reducible assumption | with_reducible refine Ext.alloc ?_ _ | with_reducible refine Ext.drew ?_ | (with_reducible refine Ext.setCell ?_ ?_ _; rotate_left; focus (first | (simp; done) | (simp; omega) | omega)) | (with_reducible refine Ext.setRow ?_ ?_ _; rotate_left; focus (first | (simp; done) | (simp; omega) | omega)) | with_reducible refine Ext.trans ?_ (by with_reducible assumption)))⟩
  exact results_cell_row Tryd.results29 _ _ _ _ _ _ _ rfl B2 Tryd.underlying30 rfl (by kernel_rfl)
set_option maxRecDepth 100000 in
set_option maxHeartbeats 2000000 in
theorem lawfree_any (tick site seq old : Int) (w : World) :
    Calls Tryd.prog 28 #[.int .i64 tick, .int .i64 site, .int .i64 seq, .int .i64 old] w fun e w' => e = .returned (.agg #[.int .i64 (freeE tick site seq old).st.tick, .int .i64 (freeE tick site seq old).st.clock, .int .i64 (freeE tick site seq old).st.site, .int .i64 (freeE tick site seq old).st.seq, .int .i64 (freeE tick site seq old).kind, .int .i64 (freeE tick site seq old).box.lo.x, .int .i64 (freeE tick site seq old).box.lo.y, .int .i64 (freeE tick site seq old).box.lo.z, .int .i64 (freeE tick site seq old).box.hi.x, .int .i64 (freeE tick site seq old).box.hi.y, .int .i64 (freeE tick site seq old).box.hi.z, .int .i64 (freeE tick site seq old).at_.x, .int .i64 (freeE tick site seq old).at_.y, .int .i64 (freeE tick site seq old).at_.z, .int .i64 (freeE tick site seq old).turn, .int .i64 (freeE tick site seq old).cell, .int .i64 (freeE tick site seq old).size]) ∧ Ext w w' := by
  have B0 := Arr.new w 30 [.int .i64 zeroEd.st.tick, .int .i64 zeroEd.st.clock, .int .i64 zeroEd.st.site, .int .i64 zeroEd.st.seq, .int .i64 zeroEd.kind, .int .i64 zeroEd.box.lo.x, .int .i64 zeroEd.box.lo.y, .int .i64 zeroEd.box.lo.z, .int .i64 zeroEd.box.hi.x, .int .i64 zeroEd.box.hi.y, .int .i64 zeroEd.box.hi.z, .int .i64 zeroEd.at_.x, .int .i64 zeroEd.at_.y, .int .i64 zeroEd.at_.z, .int .i64 zeroEd.turn, .int .i64 zeroEd.cell, .int .i64 zeroEd.size]
  have HB0 := Lib.hid B0
  clear B0
  go_enter Tryd.func28, Tryd.ntmps28
  go_wp2_with (first | (refine wpList_store_blk 30 (.tmp 8) (.tmp 14) rfl rfl HB0.out [.int .i64 (freeE tick site seq old).st.tick, .int .i64 (freeE tick site seq old).st.clock, .int .i64 (freeE tick site seq old).st.site, .int .i64 (freeE tick site seq old).st.seq, .int .i64 (freeE tick site seq old).kind, .int .i64 (freeE tick site seq old).box.lo.x, .int .i64 (freeE tick site seq old).box.lo.y, .int .i64 (freeE tick site seq old).box.lo.z, .int .i64 (freeE tick site seq old).box.hi.x, .int .i64 (freeE tick site seq old).box.hi.y, .int .i64 (freeE tick site seq old).box.hi.z, .int .i64 (freeE tick site seq old).at_.x, .int .i64 (freeE tick site seq old).at_.y, .int .i64 (freeE tick site seq old).at_.z, .int .i64 (freeE tick site seq old).turn, .int .i64 (freeE tick site seq old).cell, .int .i64 (freeE tick site seq old).size] rfl rfl (by kernel_rfl) rfl rfl ?_))
  have B2 := HB0.out.setRow [.int .i64 (freeE tick site seq old).st.tick, .int .i64 (freeE tick site seq old).st.clock, .int .i64 (freeE tick site seq old).st.site, .int .i64 (freeE tick site seq old).st.seq, .int .i64 (freeE tick site seq old).kind, .int .i64 (freeE tick site seq old).box.lo.x, .int .i64 (freeE tick site seq old).box.lo.y, .int .i64 (freeE tick site seq old).box.lo.z, .int .i64 (freeE tick site seq old).box.hi.x, .int .i64 (freeE tick site seq old).box.hi.y, .int .i64 (freeE tick site seq old).box.hi.z, .int .i64 (freeE tick site seq old).at_.x, .int .i64 (freeE tick site seq old).at_.y, .int .i64 (freeE tick site seq old).at_.z, .int .i64 (freeE tick site seq old).turn, .int .i64 (freeE tick site seq old).cell, .int .i64 (freeE tick site seq old).size]
  (try simp only [Exit.inBlock, Exit.then])
  refine bodyPost_ret (v := .agg #[.int .i64 (freeE tick site seq old).st.tick, .int .i64 (freeE tick site seq old).st.clock, .int .i64 (freeE tick site seq old).st.site, .int .i64 (freeE tick site seq old).st.seq, .int .i64 (freeE tick site seq old).kind, .int .i64 (freeE tick site seq old).box.lo.x, .int .i64 (freeE tick site seq old).box.lo.y, .int .i64 (freeE tick site seq old).box.lo.z, .int .i64 (freeE tick site seq old).box.hi.x, .int .i64 (freeE tick site seq old).box.hi.y, .int .i64 (freeE tick site seq old).box.hi.z, .int .i64 (freeE tick site seq old).at_.x, .int .i64 (freeE tick site seq old).at_.y, .int .i64 (freeE tick site seq old).at_.z, .int .i64 (freeE tick site seq old).turn, .int .i64 (freeE tick site seq old).cell, .int .i64 (freeE tick site seq old).size]) ?_ rfl ⟨rfl, (by repeat (first | with_reducible exact Ext.refl _ | with_reducible assumption | with_reducible refine Ext.alloc ?_ _ | with_reducible refine Ext.drew ?_ | (with_reducible refine Ext.setCell ?_ ?_ _; rotate_left; focus (first | (simp; done) | (simp; omega) | omega)) | (with_reducible refine Ext.setRow ?_ ?_ _; rotate_left; focus (first | (simp; done) | (simp; omega) | omega)) | with_reducible refine Ext.trans ?_ (by with_reducible assumption)))⟩
  exact results_cell_row Tryd.results28 _ _ _ _ _ _ _ rfl B2 Tryd.underlying30 rfl (by kernel_rfl)
end Go.Proofs.YtjceebpafnnffaaDoor

namespace Go.Proofs.YtjceebpafnnffaaDoor
open Go Go.RowKit

/-- It hands back a table that can be read, and an error code. -/
def RetTS (ls : List Lk) (er : Int) (w : World) (en : Ending) (w' : World) : Prop :=
  ∃ A c, en = .returned (.tuple #[.slice A ls.length c, .int .i64 er]) ∧ Sv w' w'.heap.size 9 A c (rowsL ls) ∧ Ext w w'
theorem RetT.read {ls : List Lk} {er : Int} {w w' : World} {en : Ending} (h : RetT ls er w en w') : RetTS ls er w en w' := by
  obtain ⟨A, c, h1, h2, h3⟩ := h
  rw [rowsL_length] at h2
  exact ⟨A, c, h1, Sv.of_own h2 (rowsL_rwk ls) (rowsL_length ls), h3⟩
def RetLS (ls : List Lk) (w : World) (en : Ending) (w' : World) : Prop :=
  ∃ A c, en = .returned (.slice A ls.length c) ∧ Sv w' w'.heap.size 9 A c (rowsL ls) ∧ Ext w w'
theorem RetL.read {ls : List Lk} {w w' : World} {en : Ending} (h : RetL ls w en w') : RetLS ls w en w' := by
  obtain ⟨A, c, h1, h2, h3⟩ := h
  rw [rowsL_length] at h1 h2
  exact ⟨A, c, h1, Sv.of_own h2 (rowsL_rwk ls) (rowsL_length ls), h3⟩
/-- The laid variables are there. -/
structure Laid (w : World) : Prop where
  rows : RowsIn w
  world : WorldIn w
theorem Laid.ext {w w' : World} (h : Laid w) (hx : Ext w w') : Laid w' := ⟨h.rows.ext hx, h.world.ext hx⟩
def la : Lk := ⟨1, 2, 7, cubeB 4⟩
def lm : Lk := ⟨2, 1, 9, cubeB 2⟩
theorem t1 : takeP [] (takeE 3 1 2 (cubeB 4) 7) = ([la], 0) := by decide +kernel
theorem t2 : takeP [la] (takeE 3 1 2 (cubeB 4) 7) = ([], 10) := by decide +kernel
theorem t3 : takeP [la] (takeE 4 2 1 (cubeB 2) 9) = ([], 11) := by decide +kernel
theorem t4 : takeP [la] (takeE 8 2 1 (cubeB 2) 9) = ([lm], 0) := by decide +kernel
theorem f5 : freeP [la] (freeE 5 1 3 2) = ([], 0) := by decide +kernel
theorem f6 : freeP [la] (freeE 5 1 3 1) = ([], 9) := by decide +kernel
def chs : List Chg := [⟨⟨4, 0, 0⟩, 0, 0⟩, ⟨⟨3, 3, 3⟩, 0, 0⟩]
theorem b7 : blockedL [la] 2 7 chs = 1 := by decide +kernel
theorem v8 : validP [la] = true := by decide +kernel
def zeroL : Lk := ⟨0, 0, 0, zeroBx⟩
theorem v9 : validP [zeroL] = false := by decide +kernel
theorem e10 : [la].filter (livesL 8) = [] := by decide +kernel
theorem o11 : ownerL [la] 7 ⟨3, 3, 3⟩ = 1 := by decide +kernel
theorem o12 : ownerL [la] 8 ⟨3, 3, 3⟩ = 0 := by decide +kernel
theorem o13 : ownerL [la] 7 ⟨4, 0, 0⟩ = 0 := by decide +kernel
theorem k14 : blocksL [la] 2 7 ⟨3, 3, 3⟩ = true := by decide +kernel
theorem k15 : blocksL [la] 1 7 ⟨3, 3, 3⟩ = false := by decide +kernel
theorem sorted1 (x : Lk) : SortedL [x] := List.pairwise_singleton ..
theorem sorted0 : SortedL [] := List.Pairwise.nil
theorem take_at {ls r : List Lk} {x : Ed} {er : Int} (h : takeP ls x = (r, er)) (hO : SortedL ls) (hb : ls.length ≤ 1000000) (A : Option Addr) (c : Nat) (w : World) (hs : Sv w w.heap.size 9 A c (rowsL ls)) (hL : Laid w) :
    Calls Tryd.prog 11 #[.slice A ls.length c, .agg #[.int .i64 x.st.tick, .int .i64 x.st.clock, .int .i64 x.st.site, .int .i64 x.st.seq, .int .i64 x.kind, .int .i64 x.box.lo.x, .int .i64 x.box.lo.y, .int .i64 x.box.lo.z, .int .i64 x.box.hi.x, .int .i64 x.box.hi.y, .int .i64 x.box.hi.z, .int .i64 x.at_.x, .int .i64 x.at_.y, .int .i64 x.at_.z, .int .i64 x.turn, .int .i64 x.cell, .int .i64 x.size]] w (RetTS r er w) := by
  have h1 := LTake_any A c ls x w hs hb hL.rows hO
  rw [h] at h1
  exact h1.mono fun _ _ h => h.read
theorem free_at {ls r : List Lk} {x : Ed} {er : Int} (h : freeP ls x = (r, er)) (hO : SortedL ls) (hb : ls.length ≤ 1000000) (A : Option Addr) (c : Nat) (w : World) (hs : Sv w w.heap.size 9 A c (rowsL ls)) (hL : Laid w) :
    Calls Tryd.prog 13 #[.slice A ls.length c, .agg #[.int .i64 x.st.tick, .int .i64 x.st.clock, .int .i64 x.st.site, .int .i64 x.st.seq, .int .i64 x.kind, .int .i64 x.box.lo.x, .int .i64 x.box.lo.y, .int .i64 x.box.lo.z, .int .i64 x.box.hi.x, .int .i64 x.box.hi.y, .int .i64 x.box.hi.z, .int .i64 x.at_.x, .int .i64 x.at_.y, .int .i64 x.at_.z, .int .i64 x.turn, .int .i64 x.cell, .int .i64 x.size]] w (RetTS r er w) := by
  have h1 := LFree_any A c ls x w hs hb hL.rows hO
  rw [h] at h1
  exact h1.mono fun _ _ h => h.read

theorem owner_at {ls : List Lk} {now v : Int} {p : Pt} (h : ownerL ls now p = v) (hb : ls.length ≤ 1000000) (A : Option Addr) (c : Nat) (w : World) (hs : Sv w w.heap.size 9 A c (rowsL ls)) :
    Calls Tryd.prog 20 #[.slice A ls.length c, .int .i64 now, .agg #[.int .i64 p.x, .int .i64 p.y, .int .i64 p.z]] w fun e w' => e = .returned (.int .i64 v) ∧ Ext w w' := h ▸ Owner_any A c ls w hs hb now p
theorem blocks_at {ls : List Lk} {site now : Int} {v : Bool} {p : Pt} (h : blocksL ls site now p = v) (hb : ls.length ≤ 1000000) (A : Option Addr) (c : Nat) (w : World) (hs : Sv w w.heap.size 9 A c (rowsL ls)) :
    Calls Tryd.prog 22 #[.slice A ls.length c, .int .i64 site, .int .i64 now, .agg #[.int .i64 p.x, .int .i64 p.y, .int .i64 p.z]] w fun e w' => e = .returned (.bool v) ∧ Ext w w' := h ▸ Blocks_any A c ls w hs hb site now p
theorem lvalid_at {ls : List Lk} {v : Bool} (h : validP ls = v) (hb : ls.length ≤ 1000000) (A : Option Addr) (c : Nat) (w : World) (hs : Sv w w.heap.size 9 A c (rowsL ls)) (hL : Laid w) :
    Calls Tryd.prog 24 #[.slice A ls.length c] w fun e w' => e = .returned (.bool v) ∧ Ext w w' := h ▸ LValid_any A c ls w hs hb hL.world
theorem Sv.lit (w : World) (e : TypeId) (k : Nat) (xs : List (List Value)) (hr : Rwk k xs) (hm : xs.length ≤ maxLen) : Sv (w.alloc (.cells xs.flatten.toArray e)) (w.alloc (.cells xs.flatten.toArray e)).heap.size k (some ⟨w.heap.size, 0, none⟩) xs.length xs :=
  ⟨Nat.le_refl _, hm, hr, fun _ => ⟨w.heap.size, 0, rfl, by simp, fun j u hu => by
    rw [Nat.zero_add, cell_of_row _ _ _ _ _ _ (heap_alloc_new w _)]
    simpa using hu⟩⟩
theorem Sv.lit1 (w : World) (o : Obj) (e : TypeId) (k : Nat) (xs : List (List Value)) (hr : Rwk k xs) (hm : xs.length ≤ maxLen) : Sv ((w.alloc o).alloc (.cells xs.flatten.toArray e)) ((w.alloc o).alloc (.cells xs.flatten.toArray e)).heap.size k (some ⟨w.heap.size + 1, 0, none⟩) xs.length xs := by
  have h := Sv.lit (w.alloc o) e k xs hr hm
  have e1 : (w.alloc o).heap.size = w.heap.size + 1 := by simp
  rw [e1] at h
  exact h
set_option maxRecDepth 100000 in
set_option maxHeartbeats 16000000 in
theorem sanity_any (w : World) (hL : Laid w) :
    Calls Tryd.prog 10 #[] w fun e w' => e = .returned (.bool true) ∧ Ext w w' := by
  have hm := mixed
  have hG := near_old
  have HL := Lib.hid hL
  clear hL
  go_enter Tryd.func10, Tryd.ntmps10
  go_wp2_with fail
  refine (refCube_any 4 _).mono ?_
  rintro e w1 ⟨rfl, x1⟩
  go_wp2_with fail
  refine (lawtake_any 3 1 2 (cubeB 4) 7 _).mono ?_
  rintro e w2 ⟨rfl, x2⟩
  have X2 := Lib.hid (x1.trans x2)
  clear x1 x2
  have B4 := Arr.new w2 30 [.int .i64 zeroEd.st.tick, .int .i64 zeroEd.st.clock, .int .i64 zeroEd.st.site, .int .i64 zeroEd.st.seq, .int .i64 zeroEd.kind, .int .i64 zeroEd.box.lo.x, .int .i64 zeroEd.box.lo.y, .int .i64 zeroEd.box.lo.z, .int .i64 zeroEd.box.hi.x, .int .i64 zeroEd.box.hi.y, .int .i64 zeroEd.box.hi.z, .int .i64 zeroEd.at_.x, .int .i64 zeroEd.at_.y, .int .i64 zeroEd.at_.z, .int .i64 zeroEd.turn, .int .i64 zeroEd.cell, .int .i64 zeroEd.size]
  have B5 := B4.setRow [.int .i64 (takeE 3 1 2 (cubeB 4) 7).st.tick, .int .i64 (takeE 3 1 2 (cubeB 4) 7).st.clock, .int .i64 (takeE 3 1 2 (cubeB 4) 7).st.site, .int .i64 (takeE 3 1 2 (cubeB 4) 7).st.seq, .int .i64 (takeE 3 1 2 (cubeB 4) 7).kind, .int .i64 (takeE 3 1 2 (cubeB 4) 7).box.lo.x, .int .i64 (takeE 3 1 2 (cubeB 4) 7).box.lo.y, .int .i64 (takeE 3 1 2 (cubeB 4) 7).box.lo.z, .int .i64 (takeE 3 1 2 (cubeB 4) 7).box.hi.x, .int .i64 (takeE 3 1 2 (cubeB 4) 7).box.hi.y, .int .i64 (takeE 3 1 2 (cubeB 4) 7).box.hi.z, .int .i64 (takeE 3 1 2 (cubeB 4) 7).at_.x, .int .i64 (takeE 3 1 2 (cubeB 4) 7).at_.y, .int .i64 (takeE 3 1 2 (cubeB 4) 7).at_.z, .int .i64 (takeE 3 1 2 (cubeB 4) 7).turn, .int .i64 (takeE 3 1 2 (cubeB 4) 7).cell, .int .i64 (takeE 3 1 2 (cubeB 4) 7).size]
  have X3 := Lib.hid (X2.out.trans (((Ext.refl w2).alloc _).setRow (Nat.le_refl _) _ : Ext w2 ((w2.alloc (.cells [.int .i64 zeroEd.st.tick, .int .i64 zeroEd.st.clock, .int .i64 zeroEd.st.site, .int .i64 zeroEd.st.seq, .int .i64 zeroEd.kind, .int .i64 zeroEd.box.lo.x, .int .i64 zeroEd.box.lo.y, .int .i64 zeroEd.box.lo.z, .int .i64 zeroEd.box.hi.x, .int .i64 zeroEd.box.hi.y, .int .i64 zeroEd.box.hi.z, .int .i64 zeroEd.at_.x, .int .i64 zeroEd.at_.y, .int .i64 zeroEd.at_.z, .int .i64 zeroEd.turn, .int .i64 zeroEd.cell, .int .i64 zeroEd.size].toArray 30)).setRow w2.heap.size [.int .i64 (takeE 3 1 2 (cubeB 4) 7).st.tick, .int .i64 (takeE 3 1 2 (cubeB 4) 7).st.clock, .int .i64 (takeE 3 1 2 (cubeB 4) 7).st.site, .int .i64 (takeE 3 1 2 (cubeB 4) 7).st.seq, .int .i64 (takeE 3 1 2 (cubeB 4) 7).kind, .int .i64 (takeE 3 1 2 (cubeB 4) 7).box.lo.x, .int .i64 (takeE 3 1 2 (cubeB 4) 7).box.lo.y, .int .i64 (takeE 3 1 2 (cubeB 4) 7).box.lo.z, .int .i64 (takeE 3 1 2 (cubeB 4) 7).box.hi.x, .int .i64 (takeE 3 1 2 (cubeB 4) 7).box.hi.y, .int .i64 (takeE 3 1 2 (cubeB 4) 7).box.hi.z, .int .i64 (takeE 3 1 2 (cubeB 4) 7).at_.x, .int .i64 (takeE 3 1 2 (cubeB 4) 7).at_.y, .int .i64 (takeE 3 1 2 (cubeB 4) 7).at_.z, .int .i64 (takeE 3 1 2 (cubeB 4) 7).turn, .int .i64 (takeE 3 1 2 (cubeB 4) 7).cell, .int .i64 (takeE 3 1 2 (cubeB 4) 7).size].toArray)))
  go_wp2_with (first | (refine wpList_store_blk 30 (.tmp 1) (.tmp 19) rfl rfl B4 [.int .i64 (takeE 3 1 2 (cubeB 4) 7).st.tick, .int .i64 (takeE 3 1 2 (cubeB 4) 7).st.clock, .int .i64 (takeE 3 1 2 (cubeB 4) 7).st.site, .int .i64 (takeE 3 1 2 (cubeB 4) 7).st.seq, .int .i64 (takeE 3 1 2 (cubeB 4) 7).kind, .int .i64 (takeE 3 1 2 (cubeB 4) 7).box.lo.x, .int .i64 (takeE 3 1 2 (cubeB 4) 7).box.lo.y, .int .i64 (takeE 3 1 2 (cubeB 4) 7).box.lo.z, .int .i64 (takeE 3 1 2 (cubeB 4) 7).box.hi.x, .int .i64 (takeE 3 1 2 (cubeB 4) 7).box.hi.y, .int .i64 (takeE 3 1 2 (cubeB 4) 7).box.hi.z, .int .i64 (takeE 3 1 2 (cubeB 4) 7).at_.x, .int .i64 (takeE 3 1 2 (cubeB 4) 7).at_.y, .int .i64 (takeE 3 1 2 (cubeB 4) 7).at_.z, .int .i64 (takeE 3 1 2 (cubeB 4) 7).turn, .int .i64 (takeE 3 1 2 (cubeB 4) 7).cell, .int .i64 (takeE 3 1 2 (cubeB 4) 7).size] rfl rfl (by kernel_rfl) rfl rfl ?_) | (refine wpList_load_blk 30 (.tmp 1) rfl rfl B5 rfl _ Tryd.underlying30 rfl (by kernel_rfl) ?_) | (refine wpList_load_blk 30 (.tmp 1) rfl rfl (B5.alloc _) rfl _ Tryd.underlying30 rfl (by kernel_rfl) ?_) | (refine wpList_load_blk 30 (.tmp 1) rfl rfl ((B5.alloc _).alloc _) rfl _ Tryd.underlying30 rfl (by kernel_rfl) ?_))
  refine (take_at t1 sorted0 (by decide) none 0 _ (Sv.nil _ _ _) (HL.out.ext X3.out)).mono ?_
  rintro e w3 ⟨A1, c1, rfl, s1, xx⟩
  have X4 := Lib.hid (X3.out.trans xx)
  have B5 := B5.ext xx
  clear xx
  go_wp2_with (first | (refine wpList_load_blk 30 (.tmp 1) rfl rfl B5 rfl _ Tryd.underlying30 rfl (by kernel_rfl) ?_))
  refine (take_at t2 (sorted1 _) (by decide) A1 c1 _ s1 (HL.out.ext X4.out)).mono ?_
  rintro e w4 ⟨A2, c2, rfl, s2, xx⟩
  have X5 := Lib.hid (X4.out.trans xx)
  have s1 := s1.ext xx
  have B5 := B5.ext xx
  clear xx
  go_wp2_with fail
  clear B5 B4
  refine (refCube_any 2 _).mono ?_
  rintro e w5 ⟨rfl, xx⟩
  have X6 := Lib.hid (X5.out.trans xx)
  have s1 := s1.ext xx
  clear xx
  go_wp2_with fail
  refine (lawtake_any 4 2 1 (cubeB 2) 9 _).mono ?_
  rintro e w6 ⟨rfl, xx⟩
  have X7 := Lib.hid (X6.out.trans xx)
  have s1 := s1.ext xx
  clear xx
  go_wp2_with fail
  refine (take_at t3 (sorted1 _) (by decide) A1 c1 _ s1 (HL.out.ext X7.out)).mono ?_
  rintro e w7 ⟨A3, c3, rfl, s3, xx⟩
  have X8 := Lib.hid (X7.out.trans xx)
  have s1 := s1.ext xx
  clear xx
  go_wp2_with fail
  refine (refCube_any 2 _).mono ?_
  rintro e w8 ⟨rfl, xx⟩
  have X9 := Lib.hid (X8.out.trans xx)
  have s1 := s1.ext xx
  clear xx
  go_wp2_with fail
  refine (lawtake_any 8 2 1 (cubeB 2) 9 _).mono ?_
  rintro e w9 ⟨rfl, xx⟩
  have X10 := Lib.hid (X9.out.trans xx)
  have s1 := s1.ext xx
  clear xx
  go_wp2_with fail
  refine (take_at t4 (sorted1 _) (by decide) A1 c1 _ s1 (HL.out.ext X10.out)).mono ?_
  rintro e w10 ⟨A4, c4, rfl, s4, xx⟩
  have X11 := Lib.hid (X10.out.trans xx)
  have s1 := s1.ext xx
  clear xx
  go_wp2_with fail
  refine (lawfree_any 5 1 3 2 _).mono ?_
  rintro e w11 ⟨rfl, xx⟩
  have X12 := Lib.hid (X11.out.trans xx)
  have s1 := s1.ext xx
  have s4 := s4.ext xx
  clear xx
  go_wp2_with fail
  refine (free_at f5 (sorted1 _) (by decide) A1 c1 _ s1 (HL.out.ext X12.out)).mono ?_
  rintro e w12 ⟨A5, c5, rfl, s5, xx⟩
  have X13 := Lib.hid (X12.out.trans xx)
  have s1 := s1.ext xx
  have s4 := s4.ext xx
  clear xx
  go_wp2_with fail
  refine (lawfree_any 5 1 3 1 _).mono ?_
  rintro e w13 ⟨rfl, xx⟩
  have X14 := Lib.hid (X13.out.trans xx)
  have s1 := s1.ext xx
  have s4 := s4.ext xx
  clear xx
  go_wp2_with fail
  refine (free_at f6 (sorted1 _) (by decide) A1 c1 _ s1 (HL.out.ext X14.out)).mono ?_
  rintro e w14 ⟨A6, c6, rfl, s6, xx⟩
  have X15 := Lib.hid (X14.out.trans xx)
  have s1 := s1.ext xx
  have s4 := s4.ext xx
  clear xx
  go_upto_region 11 with fail
  have B14 := Arr.new w14 26 [.int .i64 3, .int .i64 3, .int .i64 3]
  have xx : Ext w14 (w14.alloc (.cells #[.int .i64 3, .int .i64 3, .int .i64 3] 26)) := (Ext.refl w14).alloc _
  have X16 := Lib.hid (X15.out.trans xx)
  have s1 := s1.ext xx
  have s4 := s4.ext xx
  clear xx
  go_wp2_with (first | (refine wpList_load_blk 26 (.tmp 14) rfl rfl B14 rfl _ Tryd.underlying26 rfl (by kernel_rfl) ?_) | (refine wpList_load_blk 26 (.tmp 14) rfl rfl (B14.alloc _) rfl _ Tryd.underlying26 rfl (by kernel_rfl) ?_) | (refine wpList_load_blk 26 (.tmp 14) rfl rfl ((B14.alloc _).alloc _) rfl _ Tryd.underlying26 rfl (by kernel_rfl) ?_))
  have sc : Sv ((w14.alloc (.cells #[.int .i64 3, .int .i64 3, .int .i64 3] 26)).alloc (.cells (rowsC chs).flatten.toArray 54)) _ 5 (some ⟨w14.heap.size + 1, 0, none⟩) 2 (rowsC chs) := Sv.lit1 w14 _ 54 5 (rowsC chs) (rowsC_rwk chs) (by decide)
  have xx : Ext (w14.alloc (.cells #[.int .i64 3, .int .i64 3, .int .i64 3] 26)) ((w14.alloc (.cells #[.int .i64 3, .int .i64 3, .int .i64 3] 26)).alloc (.cells (rowsC chs).flatten.toArray 54)) := (Ext.refl _).alloc _
  have X17 := Lib.hid (X16.out.trans xx)
  have s1 := s1.ext xx
  have s4 := s4.ext xx
  have B14 := B14.ext xx
  clear xx
  have hbk := Blocked_any A1 (some ⟨w14.heap.size + 1, 0, none⟩) c1 2 [la] chs _ s1 sc (by decide) 2 7
  rw [b7] at hbk
  refine hbk.mono ?_
  rintro e w17 ⟨rfl, xx⟩
  have X18 := Lib.hid (X17.out.trans xx)
  have s1 := s1.ext xx
  have s4 := s4.ext xx
  have B14 := B14.ext xx
  clear xx hbk sc
  obtain ⟨ba, oa, rfl, hba, hra⟩ := lk_row s1 (j := 0) (x := la) rfl
  have r0 : World.cell? _ ⟨ba, oa + 0 * 9, none⟩ = some (.int .i64 1) := hra 0 _ rfl
  have r1 : World.cell? _ ⟨ba, oa + 0 * 9 + 1, none⟩ = some (.int .i64 2) := hra 1 _ rfl
  have r2 : World.cell? _ ⟨ba, oa + 0 * 9 + 2, none⟩ = some (.int .i64 7) := hra 2 _ rfl
  have r3 : World.cell? _ ⟨ba, oa + 0 * 9 + 3, none⟩ = some (.int .i64 0) := hra 3 _ rfl
  have r4 : World.cell? _ ⟨ba, oa + 0 * 9 + 4, none⟩ = some (.int .i64 0) := hra 4 _ rfl
  have r5 : World.cell? _ ⟨ba, oa + 0 * 9 + 5, none⟩ = some (.int .i64 0) := hra 5 _ rfl
  have r6 : World.cell? _ ⟨ba, oa + 0 * 9 + 6, none⟩ = some (.int .i64 4) := hra 6 _ rfl
  have r7 : World.cell? _ ⟨ba, oa + 0 * 9 + 7, none⟩ = some (.int .i64 4) := hra 7 _ rfl
  have r8 : World.cell? _ ⟨ba, oa + 0 * 9 + 8, none⟩ = some (.int .i64 4) := hra 8 _ rfl
  obtain ⟨bm, om, rfl, hbm, hrm⟩ := lk_row s4 (j := 0) (x := lm) rfl
  have q0 : World.cell? _ ⟨bm, om + 0 * 9, none⟩ = some (.int .i64 2) := hrm 0 _ rfl
  simp only [Nat.zero_mul, Nat.add_zero] at r0 r1 r2 r3 r4 r5 r6 r7 r8 q0
  go_wp2_with fail
  refine wp_region_near (by assumption) (by kernel_rfl) ?_
  repeat (go_big_quiet_step ((go_at_call 30; exact near_call (refCube_any 4 _))))
  refine wpQuiet_nil ?_
  intro w1 hw1
  have hy := Ext.of_near hw1
  clear hw1
  clear r0 r1 r2 r3 r4 r5 r6 r7 r8 q0 hra hrm hbm hba
  have X19 := Lib.hid (X18.out.trans hy)
  have s1 := s1.ext hy
  have s4 := s4.ext hy
  have B14 := B14.ext hy
  clear hy
  go_wp2_with (first | (refine wpList_load_blk 26 (.tmp 14) rfl rfl B14 rfl _ Tryd.underlying26 rfl (by kernel_rfl) ?_) | (refine wpList_load_blk 26 (.tmp 14) rfl rfl (B14.alloc _) rfl _ Tryd.underlying26 rfl (by kernel_rfl) ?_) | (refine wpList_load_blk 26 (.tmp 14) rfl rfl ((B14.alloc _).alloc _) rfl _ Tryd.underlying26 rfl (by kernel_rfl) ?_))
  refine (owner_at o11 (by decide) (some ⟨ba, oa, none⟩) c1 _ s1).mono ?_
  rintro e w19 ⟨rfl, xx⟩
  have X20 := Lib.hid (X19.out.trans xx)
  have s1 := s1.ext xx
  have B14 := B14.ext xx
  clear xx
  go_wp2_with (first | (refine wpList_load_blk 26 (.tmp 14) rfl rfl B14 rfl _ Tryd.underlying26 rfl (by kernel_rfl) ?_) | (refine wpList_load_blk 26 (.tmp 14) rfl rfl (B14.alloc _) rfl _ Tryd.underlying26 rfl (by kernel_rfl) ?_) | (refine wpList_load_blk 26 (.tmp 14) rfl rfl ((B14.alloc _).alloc _) rfl _ Tryd.underlying26 rfl (by kernel_rfl) ?_))
  refine (owner_at o12 (by decide) (some ⟨ba, oa, none⟩) c1 _ s1).mono ?_
  rintro e w20 ⟨rfl, xx⟩
  have X21 := Lib.hid (X20.out.trans xx)
  have s1 := s1.ext xx
  have B14 := B14.ext xx
  clear xx
  go_wp2_with (first | (refine wpList_load_blk 26 (.tmp 14) rfl rfl B14 rfl _ Tryd.underlying26 rfl (by kernel_rfl) ?_) | (refine wpList_load_blk 26 (.tmp 14) rfl rfl (B14.alloc _) rfl _ Tryd.underlying26 rfl (by kernel_rfl) ?_) | (refine wpList_load_blk 26 (.tmp 14) rfl rfl ((B14.alloc _).alloc _) rfl _ Tryd.underlying26 rfl (by kernel_rfl) ?_))
  refine (owner_at o13 (by decide) (some ⟨ba, oa, none⟩) c1 _ s1).mono ?_
  rintro e w21 ⟨rfl, xx⟩
  have X22 := Lib.hid (X21.out.trans xx)
  have s1 := s1.ext xx
  have B14 := B14.ext xx
  clear xx
  go_wp2_with (first | (refine wpList_load_blk 26 (.tmp 14) rfl rfl B14 rfl _ Tryd.underlying26 rfl (by kernel_rfl) ?_) | (refine wpList_load_blk 26 (.tmp 14) rfl rfl (B14.alloc _) rfl _ Tryd.underlying26 rfl (by kernel_rfl) ?_) | (refine wpList_load_blk 26 (.tmp 14) rfl rfl ((B14.alloc _).alloc _) rfl _ Tryd.underlying26 rfl (by kernel_rfl) ?_))
  refine (blocks_at k14 (by decide) (some ⟨ba, oa, none⟩) c1 _ s1).mono ?_
  rintro e w22 ⟨rfl, xx⟩
  have X23 := Lib.hid (X22.out.trans xx)
  have s1 := s1.ext xx
  have B14 := B14.ext xx
  clear xx
  go_wp2_with (first | (refine wpList_load_blk 26 (.tmp 14) rfl rfl B14 rfl _ Tryd.underlying26 rfl (by kernel_rfl) ?_) | (refine wpList_load_blk 26 (.tmp 14) rfl rfl (B14.alloc _) rfl _ Tryd.underlying26 rfl (by kernel_rfl) ?_) | (refine wpList_load_blk 26 (.tmp 14) rfl rfl ((B14.alloc _).alloc _) rfl _ Tryd.underlying26 rfl (by kernel_rfl) ?_))
  refine (blocks_at k15 (by decide) (some ⟨ba, oa, none⟩) c1 _ s1).mono ?_
  rintro e w23 ⟨rfl, xx⟩
  have X24 := Lib.hid (X23.out.trans xx)
  have s1 := s1.ext xx
  have B14 := B14.ext xx
  clear xx
  go_wp2_with (first | (refine wpList_load_blk 26 (.tmp 14) rfl rfl B14 rfl _ Tryd.underlying26 rfl (by kernel_rfl) ?_) | (refine wpList_load_blk 26 (.tmp 14) rfl rfl (B14.alloc _) rfl _ Tryd.underlying26 rfl (by kernel_rfl) ?_) | (refine wpList_load_blk 26 (.tmp 14) rfl rfl ((B14.alloc _).alloc _) rfl _ Tryd.underlying26 rfl (by kernel_rfl) ?_))
  refine (lvalid_at v8 (by decide) (some ⟨ba, oa, none⟩) c1 _ s1 (HL.out.ext X24.out)).mono ?_
  rintro e w24 ⟨rfl, xx⟩
  have X25 := Lib.hid (X24.out.trans xx)
  have s1 := s1.ext xx
  have B14 := B14.ext xx
  clear xx
  go_wp2_with (first | (refine wpList_load_blk 26 (.tmp 14) rfl rfl B14 rfl _ Tryd.underlying26 rfl (by kernel_rfl) ?_) | (refine wpList_load_blk 26 (.tmp 14) rfl rfl (B14.alloc _) rfl _ Tryd.underlying26 rfl (by kernel_rfl) ?_) | (refine wpList_load_blk 26 (.tmp 14) rfl rfl ((B14.alloc _).alloc _) rfl _ Tryd.underlying26 rfl (by kernel_rfl) ?_))
  have sz := Sv.lit w24 52 9 (rowsL [zeroL]) (rowsL_rwk _) (by decide)
  have xx : Ext w24 (w24.alloc (.cells (rowsL [zeroL]).flatten.toArray 52)) := (Ext.refl _).alloc _
  have X26 := Lib.hid (X25.out.trans xx)
  have s1 := s1.ext xx
  have B14 := B14.ext xx
  clear xx
  refine (lvalid_at v9 (by decide) (some ⟨w24.heap.size, 0, none⟩) 1 _ sz (HL.out.ext X26.out)).mono ?_
  rintro e w26 ⟨rfl, xx⟩
  have X27 := Lib.hid (X26.out.trans xx)
  have s1 := s1.ext xx
  have B14 := B14.ext xx
  clear xx sz
  go_wp2_with fail
  have he := Expire_any (some ⟨ba, oa, none⟩) c1 [la] _ s1 (by decide) 8
  rw [e10] at he
  refine he.mono ?_
  rintro e w27 ⟨A9, c9, rfl, _, xx⟩
  go_wp2
  go_ret
  exact ⟨rfl, X27.out.trans xx⟩
end Go.Proofs.YtjceebpafnnffaaDoor

namespace Go.Proofs.YtjceebpafnnffaaDoor
open Go Go.RowKit

set_option maxHeartbeats 2000000 in
theorem few_any (A : Option Addr) (c : Nat) (ls : List Lk) (w : World) (hs : Sv w w.heap.size 9 A c (rowsL ls)) :
    Calls Tryd.prog 9 #[.slice A ls.length c] w fun e w' => e = .returned (.bool (decide (ls.length ≤ 60) && validR ls)) ∧ Ext w w' := by
  have hln := hs.len
  rw [rowsL_length] at hln
  by_cases h : ls.length ≤ 60
  · have HV := Lib.hid (refValid_any A c ls w hs (by omega))
    have hb : decide ((ls.length : Int) ≤ 60) = true := decide_eq_true (by omega)
    have hb2 : decide (ls.length ≤ 60) = true := decide_eq_true h
    rw [hb2]
    generalize validR ls = v at HV
    clear hs
    go_enter Tryd.func9, Tryd.ntmps9
    go_wp2_with fail
    refine HV.out.mono ?_
    rintro e wx ⟨rfl, xx⟩
    go_wp2
    go_ret
    exact ⟨ret_bool (by simp), xx⟩
  · have hb2 : decide (ls.length ≤ 60) = false := decide_eq_false h
    rw [hb2]
    have hb : decide ((ls.length : Int) ≤ 60) = false := decide_eq_false (by omega)
    clear hs
    go_enter Tryd.func9, Tryd.ntmps9
    go_wp2
    go_ret
    exact ⟨rfl, Ext.refl _⟩
set_option maxHeartbeats 2000000 in
theorem LockValidMatchesSpec_any (A : Option Addr) (c : Nat) (ls : List Lk) (w : World) (hs : Sv w w.heap.size 9 A c (rowsL ls)) (hL : Laid w) :
    Calls Tryd.prog 4 #[.slice A ls.length c] w fun e w' => e = .returned (.bool true) ∧ Ext w w' := by
  have hln := hs.len
  rw [rowsL_length] at hln
  have HS := Lib.hid hs
  have HL := Lib.hid hL
  clear hs hL
  by_cases h : ls.length ≤ 60
  · have HV := Lib.hid (fun (w' : World) (hx : Ext w w') => LValid_any A c ls w' (HS.out.ext hx) (by omega) (HL.out.ext hx).world)
    have HV2 := Lib.hid (fun (w' : World) (hx : Ext w w') => refValid_any A c ls w' (HS.out.ext hx) (by omega))
    rw [valid_eq] at HV
    generalize validR ls = v at HV HV2
    go_enter Tryd.func4, Tryd.ntmps4
    go_wp2_with fail
    refine (sanity_any w HL.out).mono ?_
    rintro e w1 ⟨rfl, x1⟩
    go_wp2_with fail
    refine (HV.out _ x1).mono ?_
    rintro e w2 ⟨rfl, x2⟩
    have x2 := x1.trans x2
    go_wp2_with fail
    refine (HV2.out _ x2).mono ?_
    rintro e w3 ⟨rfl, x3⟩
    have x3 := x2.trans x3
    go_wp2
    go_ret
    exact ⟨ret_bool (by simp), x3⟩
  · go_enter Tryd.func4, Tryd.ntmps4
    go_wp2_with fail
    refine (sanity_any w HL.out).mono ?_
    rintro e w1 ⟨rfl, x1⟩
    go_wp2
    go_ret
    exact ⟨rfl, x1⟩
end Go.Proofs.YtjceebpafnnffaaDoor
