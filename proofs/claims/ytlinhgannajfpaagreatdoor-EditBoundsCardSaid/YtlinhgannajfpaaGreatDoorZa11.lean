/- YtlinhgannajfpaaGreatDoorTk2 · YtlinhgannajfpaaGreatDoorK1 · YtlinhgannajfpaaGreatDoorK2 · YtlinhgannajfpaaGreatDoorK3 · YtlinhgannajfpaaGreatDoorK4 · YtlinhgannajfpaaGreatDoorK5 · YtlinhgannajfpaaGreatDoorK6 · YtlinhgannajfpaaGreatDoorK7 -/
import Derived.Test.YtlinhgannajfpaaGreatDoorZa10
/- Bounds of an edit, on both sides. -/
namespace Go.Proofs.YtlinhgannajfpaaGreatDoor
open Go Go.RowKit

def isS (n : Int) : Bool := decide (1 ≤ n ∧ n ≤ 4096)
set_option maxHeartbeats 1000000 in
theorem refisSize_any (n : Int) (w : World) : Calls Tryz.prog 79 #[.int .i64 n] w fun e w' => e = .returned (.bool (isS n)) ∧ Ext w w' := by
 by_cases h1 : 1 ≤ n
 · go_enter Tryz.func79, Tryz.ntmps79
   go_wp2
   all_goals
    go_ret
    refine ⟨ret_bool ?_, Ext.refl _⟩
    rw [Bool.eq_iff_iff]
    simp [isS]
    try omega
 · go_enter Tryz.func79, Tryz.ntmps79
   go_wp2
   all_goals
    go_ret
    refine ⟨ret_bool ?_, Ext.refl _⟩
    rw [Bool.eq_iff_iff]
    simp [isS]
    try omega
theorem around_sub (p : Pt) (h : Int) : aroundB p h = ⟨subP p ⟨h, h, h⟩, addP p ⟨h + 1, h + 1, h + 1⟩⟩ := by
 unfold aroundB shiftB addP subP wrap64
 simp only [Bx.mk.injEq, Pt.mk.injEq]
 omega

set_option maxRecDepth 100000 in
set_option maxHeartbeats 8000000 in
theorem refBallBox_any (p : Pt) (n : Int) (w : World) : Calls Tryz.prog 60 #[.agg #[.int .i64 p.x, .int .i64 p.y, .int .i64 p.z], .int .i64 n] w fun e w' => e = .returned (.agg #[.int .i64 (ballBx p n).lo.x, .int .i64 (ballBx p n).lo.y, .int .i64 (ballBx p n).lo.z, .int .i64 (ballBx p n).hi.x, .int .i64 (ballBx p n).hi.y, .int .i64 (ballBx p n).hi.z]) ∧ Ext w w' := by
 have hm := mixed
 have hG := near_old
 obtain ⟨W0, hW⟩ : ∃ W, W = (w.alloc (.cells #[.int .i64 p.x, .int .i64 p.y, .int .i64 p.z] 25)).alloc (.cells #[.int .i64 0, .int .i64 0, .int .i64 0, .int .i64 0, .int .i64 0, .int .i64 0] 27) := ⟨_, rfl⟩
 have HX := Lib.hid (show Ext w W0 by rw [hW]; exact ((Ext.refl w).alloc _).alloc _)
 have H2 := Lib.hid (show Arr W0 w.heap.size 25 [.int .i64 p.x, .int .i64 p.y, .int .i64 p.z] by rw [hW]; exact (Arr.new w 25 [.int .i64 p.x, .int .i64 p.y, .int .i64 p.z]).alloc _)
 have H4 := Lib.hid (show Arr W0 (w.heap.size + 1) 27 [.int .i64 0, .int .i64 0, .int .i64 0, .int .i64 0, .int .i64 0, .int .i64 0] by rw [hW]; have h := Arr.new (w.alloc (.cells #[.int .i64 p.x, .int .i64 p.y, .int .i64 p.z] 25)) 27 [.int .i64 0, .int .i64 0, .int .i64 0, .int .i64 0, .int .i64 0, .int .i64 0]; simp only [World.size_alloc_] at h; exact h)
 by_cases hn : 1 ≤ n ∧ n ≤ 4096
 · have HI := Lib.hid (show ∀ W : World, Calls Tryz.prog 79 #[.int .i64 n] W fun e w' => e = .returned (.bool true) ∧ Ext W w' by intro W; have h := refisSize_any n W; rw [show isS n = true by unfold isS; rw [decide_eq_true hn]] at h; exact h)
   have hd : ballBx p n = aroundB p (n / 2) := by unfold ballBx; rw [if_pos hn]
   rw [hd, around_sub]
   clear hd
   have hq : n.tdiv 2 = n / 2 := Int.tdiv_eq_ediv_of_nonneg (by omega)
   have hh0 : 0 ≤ n / 2 ∧ n / 2 ≤ 2048 := by omega
   clear hn
   obtain ⟨h, hh⟩ : ∃ h, h = n / 2 := ⟨_, rfl⟩
   rw [← hh] at hq hh0 ⊢
   clear hh
   have HA1 := Lib.hid (show ∀ W : World, Calls Tryz.prog 37 #[.agg #[.int .i64 p.x, .int .i64 p.y, .int .i64 p.z], .agg #[.int .i64 h, .int .i64 h, .int .i64 h]] W fun e w' => e = .returned (.agg #[.int .i64 (subP p ⟨h, h, h⟩).x, .int .i64 (subP p ⟨h, h, h⟩).y, .int .i64 (subP p ⟨h, h, h⟩).z]) ∧ Ext W w' from refSub_any p ⟨h, h, h⟩)
   have HA2 := Lib.hid (show ∀ W : World, Calls Tryz.prog 36 #[.agg #[.int .i64 p.x, .int .i64 p.y, .int .i64 p.z], .agg #[.int .i64 (h + 1), .int .i64 (h + 1), .int .i64 (h + 1)]] W fun e w' => e = .returned (.agg #[.int .i64 (addP p ⟨h + 1, h + 1, h + 1⟩).x, .int .i64 (addP p ⟨h + 1, h + 1, h + 1⟩).y, .int .i64 (addP p ⟨h + 1, h + 1, h + 1⟩).z]) ∧ Ext W w' from rAdd_any p ⟨h + 1, h + 1, h + 1⟩)
   generalize subP p ⟨h, h, h⟩ = q1 at HA1 ⊢
   generalize addP p ⟨h + 1, h + 1, h + 1⟩ = q2 at HA2 ⊢
   go_enter Tryz.func60, Tryz.ntmps60
   go_upto_region 1 with fail
   rw [← hW]
   clear hW
   go_upto_region 2 with (first
    | (go_at_call 79; refine (HI.out _).mono ?_; rintro e W1 ⟨rfl, hx⟩; replace HX := xEx HX hx; replace H2 := aEx H2 hx; replace H4 := aEx H4 hx; clear hx))
   go_upto_region 4 with fail
   go_upto_region 5 with fail
   have HN0 := Lib.hid (fun W : World => HA1.out W)
   have HN1 := Lib.hid (fun W : World => HA2.out W)
   have c2 := H2.out.cell; have l2 := H2.out.lt
   (try simp only [Act.put, List.setIfInBounds_toArray, List.set_cons_zero, List.set_cons_succ])
   refine wp_region_near_tail 16 (by assumption) (by kernel_rfl) ?_
   simp only [List.take_succ_cons, List.take_zero, List.drop_succ_cons, List.drop_zero]
   repeat (go_big_quiet_step ((first | (go_at_call 37; with_reducible exact near_call (HN0.out _)) | (go_at_call 36; with_reducible exact near_call (HN1.out _)))))
   refine wpQuiet_nil ?_
   intro w1 hw1
   have hy := Ext.of_near hw1
   clear hw1
   replace HX := xEx HX hy; replace H2 := aEx H2 hy; replace H4 := aEx H4 hy
   clear hy c2 l2
   go_wp2_with (first
    | (refine wpList_store_blk2 27 (.tmp 4) (.tmp 29) rfl rfl H4.out [.int .i64 q1.x, .int .i64 q1.y, .int .i64 q1.z, .int .i64 q2.x, .int .i64 q2.y, .int .i64 q2.z] rfl rfl (by kernel_rfl) rfl rfl rfl ?_; intro W2 hW; replace HX := xRow HX hW (by omega); replace H2 := aRow H2 hW (by omega); replace H4 := nRow H4 hW; clear hW))
   refine bodyPost_ret (v := .agg #[.int .i64 q1.x, .int .i64 q1.y, .int .i64 q1.z, .int .i64 q2.x, .int .i64 q2.y, .int .i64 q2.z]) ?_ rfl ⟨rfl, HX.out⟩
   exact results_cell_row Tryz.results60 _ _ _ _ _ _ _ rfl H4.out Tryz.underlying27 rfl (by kernel_rfl)

 · have HI := Lib.hid (show ∀ W : World, Calls Tryz.prog 79 #[.int .i64 n] W fun e w' => e = .returned (.bool false) ∧ Ext W w' by intro W; have h := refisSize_any n W; rw [show isS n = false by unfold isS; rw [decide_eq_false hn]] at h; exact h)
   have hd : ballBx p n = zeroBx := by unfold ballBx; rw [if_neg hn]
   rw [hd]
   clear hd hn
   go_enter Tryz.func60, Tryz.ntmps60
   go_upto_region 1 with fail
   rw [← hW]
   clear hW
   go_upto_region 2 with (first
    | (go_at_call 79; refine (HI.out _).mono ?_; rintro e W1 ⟨rfl, hx⟩; replace HX := xEx HX hx; replace H2 := aEx H2 hx; replace H4 := aEx H4 hx; clear hx))
   go_upto_region 3 with fail
   go_wp2_with (first
    | (refine wpList_store_blk2 27 (.tmp 4) (.tmp 11) rfl rfl H4.out [.int .i64 0, .int .i64 0, .int .i64 0, .int .i64 0, .int .i64 0, .int .i64 0] rfl rfl (by kernel_rfl) rfl rfl rfl ?_; intro W2 hW; replace HX := xRow HX hW (by omega); replace H2 := aRow H2 hW (by omega); replace H4 := nRow H4 hW; clear hW))
   refine bodyPost_ret (v := .agg #[.int .i64 0, .int .i64 0, .int .i64 0, .int .i64 0, .int .i64 0, .int .i64 0]) ?_ rfl ⟨rfl, HX.out⟩
   exact results_cell_row Tryz.results60 _ _ _ _ _ _ _ rfl H4.out Tryz.underlying27 rfl (by kernel_rfl)

def targB (x : Ed) : Bx := ⟨x.at_, addP x.at_ (subP (turnB x.turn x.box).hi (turnB x.turn x.box).lo)⟩
def rawB (x : Ed) : Bx := if x.kind = 1 ∨ x.kind = 3 then x.box else if x.kind = 2 then ballBx x.at_ x.size else if x.kind = 4 then targB x else if x.kind = 5 then ⟨subP x.at_ ⟨x.size - 1, x.size - 1, x.size - 1⟩, addP x.at_ ⟨x.size, x.size, x.size⟩⟩ else zeroBx
def boundsE (x : Ed) (d : Int) : Bx := interB (rawB x) (cubeD d)
structure BoxOk (b : Bx) (s : Int) : Prop where
 lo : 0 ≤ b.lo.x ∧ 0 ≤ b.lo.y ∧ 0 ≤ b.lo.z
 lt : b.lo.x < b.hi.x ∧ b.lo.y < b.hi.y ∧ b.lo.z < b.hi.z
 hi : b.hi.x ≤ s ∧ b.hi.y ≤ s ∧ b.hi.z ≤ s
theorem BoxOk.empty {b : Bx} {s : Int} (h : BoxOk b s) : emptyB b = false := by
 obtain ⟨h1, h2, h3⟩ := h
 unfold emptyB inP
 simp only [Bool.not_eq_false', Bool.and_eq_true, decide_eq_true_eq]
 omega
theorem BoxOk.sml {b : Bx} {s : Int} (h : BoxOk b s) (hs : s ≤ 16384) : smlB b := by
 obtain ⟨h1, h2, h3⟩ := h
 unfold smlB smlP
 omega
theorem turned_rng {s k : Int} {p : Pt} (h : smlP p) : -1000000 ≤ tcI s p k ∧ tcI s p k ≤ 1000000 := by
 unfold tcI cdP
 unfold smlP at h
 split
 · split
   · unfold wrap64; omega
   · split <;> (unfold wrap64; omega)
 · split
   · omega
   · split <;> omega
theorem turnB_ne {s : Int} {b : Bx} (hs : isT s = true) (he : emptyB b = false) (hb : smlB b) : emptyB (turnB s b) = false ∧ smlB (turnB s b) := by
 obtain ⟨hx, hy, hz⟩ := notEmpty he
 have d2 : ∀ p, turnP s p = ⟨tcI s p 0, tcI s p 1, tcI s p 2⟩ := fun p => by unfold turnP; rw [hs]; rfl
 have r := fun k => turned_rng (s := s) (k := k) hb.1
 have q := fun k => turned_rng (s := s) (k := k) hb.2
 have ne : ∀ k, tcI s b.lo k ≠ tcI s b.hi k := fun k => by
  have := hb.1; have := hb.2
  unfold smlP at *
  unfold tcI cdP
  split
  · split
    · unfold wrap64; omega
    · split <;> (unfold wrap64; omega)
  · split
    · omega
    · split <;> omega
 unfold turnB
 rw [hs, he, if_pos rfl, if_neg (by decide)]
 simp only [d2]
 have r0 := r 0; have r1 := r 1; have r2 := r 2; have q0 := q 0; have q1 := q 1; have q2 := q 2; have n0 := ne 0; have n1 := ne 1; have n2 := ne 2
 unfold emptyB inP smlB smlP
 simp only [Bool.not_eq_false', Bool.and_eq_true, decide_eq_true_eq]
 omega
theorem targ_eq {x : Ed} (hs : isT x.turn = true) (he : emptyB x.box = false) (hb : smlB x.box) (ha : smlP x.at_) : shiftB (turnB x.turn x.box) (subP x.at_ (turnB x.turn x.box).lo) = targB x := by
 have h := (turnB_ne hs he hb).2
 unfold targB shiftB
 generalize turnB x.turn x.box = t at h
 unfold smlB smlP at *
 obtain ⟨⟨ax, ay, az⟩, st⟩ : ∃ a : Pt, x.at_ = a := ⟨_, rfl⟩
 rw [st] at ha ⊢
 unfold addP subP wrap64
 simp only [Bx.mk.injEq, Pt.mk.injEq] at ha ⊢
 omega

set_option maxRecDepth 100000 in
set_option maxHeartbeats 8000000 in
theorem refTarget_any (x : Ed) (hs : isT x.turn = true) (he : emptyB x.box = false) (hb : smlB x.box) (ha : smlP x.at_) (w : World) : Calls Tryz.prog 61 #[.agg #[.int .i64 x.st.tick, .int .i64 x.st.clock, .int .i64 x.st.site, .int .i64 x.st.seq, .int .i64 x.kind, .int .i64 x.box.lo.x, .int .i64 x.box.lo.y, .int .i64 x.box.lo.z, .int .i64 x.box.hi.x, .int .i64 x.box.hi.y, .int .i64 x.box.hi.z, .int .i64 x.at_.x, .int .i64 x.at_.y, .int .i64 x.at_.z, .int .i64 x.turn, .int .i64 x.cell, .int .i64 x.size]] w fun e w' => e = .returned (.agg #[.int .i64 (targB x).lo.x, .int .i64 (targB x).lo.y, .int .i64 (targB x).lo.z, .int .i64 (targB x).hi.x, .int .i64 (targB x).hi.y, .int .i64 (targB x).hi.z]) ∧ Ext w w' := by
 have hm := mixed
 have hG := near_old
 obtain ⟨W0, hW⟩ : ∃ W, W = (w.alloc (.cells #[.int .i64 x.st.tick, .int .i64 x.st.clock, .int .i64 x.st.site, .int .i64 x.st.seq, .int .i64 x.kind, .int .i64 x.box.lo.x, .int .i64 x.box.lo.y, .int .i64 x.box.lo.z, .int .i64 x.box.hi.x, .int .i64 x.box.hi.y, .int .i64 x.box.hi.z, .int .i64 x.at_.x, .int .i64 x.at_.y, .int .i64 x.at_.z, .int .i64 x.turn, .int .i64 x.cell, .int .i64 x.size] 29)).alloc (.cells #[.int .i64 0, .int .i64 0, .int .i64 0, .int .i64 0, .int .i64 0, .int .i64 0] 27) := ⟨_, rfl⟩
 have HX := Lib.hid (show Ext w W0 by rw [hW]; exact ((Ext.refl w).alloc _).alloc _)
 have H1 := Lib.hid (show Arr W0 w.heap.size 29 [.int .i64 x.st.tick, .int .i64 x.st.clock, .int .i64 x.st.site, .int .i64 x.st.seq, .int .i64 x.kind, .int .i64 x.box.lo.x, .int .i64 x.box.lo.y, .int .i64 x.box.lo.z, .int .i64 x.box.hi.x, .int .i64 x.box.hi.y, .int .i64 x.box.hi.z, .int .i64 x.at_.x, .int .i64 x.at_.y, .int .i64 x.at_.z, .int .i64 x.turn, .int .i64 x.cell, .int .i64 x.size] by rw [hW]; exact (Arr.new w 29 [.int .i64 x.st.tick, .int .i64 x.st.clock, .int .i64 x.st.site, .int .i64 x.st.seq, .int .i64 x.kind, .int .i64 x.box.lo.x, .int .i64 x.box.lo.y, .int .i64 x.box.lo.z, .int .i64 x.box.hi.x, .int .i64 x.box.hi.y, .int .i64 x.box.hi.z, .int .i64 x.at_.x, .int .i64 x.at_.y, .int .i64 x.at_.z, .int .i64 x.turn, .int .i64 x.cell, .int .i64 x.size]).alloc _)
 have H2 := Lib.hid (show Arr W0 (w.heap.size + 1) 27 [.int .i64 0, .int .i64 0, .int .i64 0, .int .i64 0, .int .i64 0, .int .i64 0] by rw [hW]; have h := Arr.new (w.alloc (.cells #[.int .i64 x.st.tick, .int .i64 x.st.clock, .int .i64 x.st.site, .int .i64 x.st.seq, .int .i64 x.kind, .int .i64 x.box.lo.x, .int .i64 x.box.lo.y, .int .i64 x.box.lo.z, .int .i64 x.box.hi.x, .int .i64 x.box.hi.y, .int .i64 x.box.hi.z, .int .i64 x.at_.x, .int .i64 x.at_.y, .int .i64 x.at_.z, .int .i64 x.turn, .int .i64 x.cell, .int .i64 x.size] 29)) 27 [.int .i64 0, .int .i64 0, .int .i64 0, .int .i64 0, .int .i64 0, .int .i64 0]; simp only [World.size_alloc_] at h; exact h)
 have ht := targ_eq hs he hb ha
 have HT := refTurnBox_any x.turn x.box hs he hb
 rw [← ht]
 generalize turnB x.turn x.box = t at HT ht ⊢
 have HS := Lib.hid (refSub_any x.at_ t.lo)
 have HF := Lib.hid (refShift_any t (subP x.at_ t.lo))
 generalize subP x.at_ t.lo = q at HS HF ht ⊢
 generalize shiftB t q = r at HF ht ⊢
 replace HT := Lib.hid HT
 clear hs he hb ha ht
 go_enter Tryz.func61, Tryz.ntmps61
 go_upto_region 1 with fail
 rw [← hW]
 clear hW
 have c1 := H1.out.cell; have l1 := H1.out.lt
 go_upto_region 2 with (first
  | (refine wpList_load_part 27 (.tmp 6) rfl rfl H1.out 5 [.int .i64 x.box.lo.x, .int .i64 x.box.lo.y, .int .i64 x.box.lo.z, .int .i64 x.box.hi.x, .int .i64 x.box.hi.y, .int .i64 x.box.hi.z] rfl rfl _ Tryz.underlying27 rfl (by kernel_rfl) ?_) | (refine wpList_load_part 27 (.tmp 6) rfl rfl (H1.out.alloc _) 5 [.int .i64 x.box.lo.x, .int .i64 x.box.lo.y, .int .i64 x.box.lo.z, .int .i64 x.box.hi.x, .int .i64 x.box.hi.y, .int .i64 x.box.hi.z] rfl rfl _ Tryz.underlying27 rfl (by kernel_rfl) ?_)
  | (go_at_call 38; refine (HT.out _).mono ?_; rintro e W1 ⟨rfl, hx⟩; replace HX := xEx HX hx; replace H1 := aEx H1 hx; replace H2 := aEx H2 hx; clear hx)
  | (refine wpList_store_blk2 27 (.tmp 3) (.tmp 8) rfl rfl (Arr.new W1 27 [.int .i64 0, .int .i64 0, .int .i64 0, .int .i64 0, .int .i64 0, .int .i64 0]) [.int .i64 t.lo.x, .int .i64 t.lo.y, .int .i64 t.lo.z, .int .i64 t.hi.x, .int .i64 t.hi.y, .int .i64 t.hi.z] rfl rfl (by kernel_rfl) rfl rfl rfl ?_; intro W2 hW; have Q1_3 := aLt H1; have Q2_3 := aLt H2; have Qw_3 := Lib.hid HX.out.size; replace HX := xNew HX hW; replace H1 := aNew H1 hW; replace H2 := aNew H2 hW; have H3 := nNew hW; clear hW))
 clear c1 l1
 obtain ⟨b3, hb3⟩ : ∃ n, n = W1.heap.size := ⟨_, rfl⟩
 rw [← hb3] at H3 Q1_3 Q2_3 Qw_3 ⊢
 clear hb3
 have HN0 := Lib.hid (fun W : World => HS.out W)
 have HN1 := Lib.hid (fun W : World => HF.out W)
 have c1 := H1.out.cell; have l1 := H1.out.lt
 have c3 := H3.out.cell; have l3 := H3.out.lt
 (try simp only [Act.put, List.setIfInBounds_toArray, List.set_cons_zero, List.set_cons_succ])
 refine wp_region_near_tail 7 (by assumption) (by kernel_rfl) ?_
 simp only [List.take_succ_cons, List.take_zero, List.drop_succ_cons, List.drop_zero]
 repeat (go_big_quiet_step ((first | (go_at_call 37; with_reducible exact near_call (HN0.out _)) | (go_at_call 96; with_reducible exact near_call (HN1.out _)))))
 refine wpQuiet_nil ?_
 intro w1 hw1
 have hy := Ext.of_near hw1
 clear hw1
 replace HX := xEx HX hy; replace H1 := aEx H1 hy; replace H2 := aEx H2 hy; replace H3 := aEx H3 hy
 clear hy c1 l1 c3 l3
 go_wp2_with (first
  | (refine wpList_store_blk2 27 (.tmp 2) (.tmp 15) rfl rfl H2.out [.int .i64 r.lo.x, .int .i64 r.lo.y, .int .i64 r.lo.z, .int .i64 r.hi.x, .int .i64 r.hi.y, .int .i64 r.hi.z] rfl rfl (by kernel_rfl) rfl rfl rfl ?_; intro W3 hW; replace HX := xRow HX hW (by omega); replace H1 := aRow H1 hW (by omega); replace H3 := aRow H3 hW (by have := Q2_3.out; omega); replace H2 := nRow H2 hW; clear hW))
 refine bodyPost_ret (v := .agg #[.int .i64 r.lo.x, .int .i64 r.lo.y, .int .i64 r.lo.z, .int .i64 r.hi.x, .int .i64 r.hi.y, .int .i64 r.hi.z]) ?_ rfl ⟨rfl, HX.out⟩
 exact results_cell_row Tryz.results61 _ _ _ _ _ _ _ rfl H2.out Tryz.underlying27 rfl (by kernel_rfl)

theorem pow_w (d : Int) (hd : 2 ≤ d ∧ d ≤ 14) : wrap64 ((2 : Int) ^ d.toNat) = (2 : Int) ^ d.toNat := by
 rcases (show d = 2 ∨ d = 3 ∨ d = 4 ∨ d = 5 ∨ d = 6 ∨ d = 7 ∨ d = 8 ∨ d = 9 ∨ d = 10 ∨ d = 11 ∨ d = 12 ∨ d = 13 ∨ d = 14 by omega) with h | h | h | h | h | h | h | h | h | h | h | h | h <;> subst h <;> kernel_rfl
theorem size_sub {t : Bx} (h : emptyB t = false) : (if emptyB t then zeroPt else addP t.hi (scaleP t.lo (-1))) = subP t.hi t.lo := by
 rw [h, if_neg (by decide)]
 unfold addP scaleP subP wrap64
 simp only [Pt.mk.injEq]
 omega
theorem ball_one (p : Pt) : ballBx p 1 = ⟨subP p ⟨0, 0, 0⟩, addP p ⟨1, 1, 1⟩⟩ := by
 unfold ballBx
 rw [if_pos (by decide), around_sub]
 rfl
theorem fill_lo (p : Pt) (n : Int) : addP (ballBx p 1).lo (scaleP ⟨n - 1, n - 1, n - 1⟩ (-1)) = subP p ⟨n - 1, n - 1, n - 1⟩ := by
 rw [ball_one]
 unfold addP scaleP subP wrap64
 simp only [Pt.mk.injEq]
 omega
theorem fill_hi (p : Pt) (n : Int) : addP (ballBx p 1).hi ⟨n - 1, n - 1, n - 1⟩ = addP p ⟨n, n, n⟩ := by
 rw [ball_one]
 unfold addP wrap64
 simp only [Pt.mk.injEq]
 omega
end Go.Proofs.YtlinhgannajfpaaGreatDoor

/- Bounds of an edit, kind by kind. -/
namespace Go.Proofs.YtlinhgannajfpaaGreatDoor
open Go Go.RowKit

set_option maxRecDepth 100000 in
set_option maxHeartbeats 8000000 in
theorem pBounds_1 (x : Ed) (d : Int) (hd : 2 ≤ d ∧ d ≤ 14) (w : World) : Calls Tryz.prog 15 #[.agg #[.int .i64 x.st.tick, .int .i64 x.st.clock, .int .i64 x.st.site, .int .i64 x.st.seq, .int .i64 1, .int .i64 x.box.lo.x, .int .i64 x.box.lo.y, .int .i64 x.box.lo.z, .int .i64 x.box.hi.x, .int .i64 x.box.hi.y, .int .i64 x.box.hi.z, .int .i64 x.at_.x, .int .i64 x.at_.y, .int .i64 x.at_.z, .int .i64 x.turn, .int .i64 x.cell, .int .i64 x.size], .int .i64 d] w fun e w' => e = .returned (.agg #[.int .i64 (interB x.box (cubeD d)).lo.x, .int .i64 (interB x.box (cubeD d)).lo.y, .int .i64 (interB x.box (cubeD d)).lo.z, .int .i64 (interB x.box (cubeD d)).hi.x, .int .i64 (interB x.box (cubeD d)).hi.y, .int .i64 (interB x.box (cubeD d)).hi.z]) ∧ Ext w w' := by
 have hm := mixed
 have hG := near_old
 obtain ⟨W0, hW⟩ : ∃ W, W = ((w.alloc (.cells #[.int .i64 x.st.tick, .int .i64 x.st.clock, .int .i64 x.st.site, .int .i64 x.st.seq, .int .i64 1, .int .i64 x.box.lo.x, .int .i64 x.box.lo.y, .int .i64 x.box.lo.z, .int .i64 x.box.hi.x, .int .i64 x.box.hi.y, .int .i64 x.box.hi.z, .int .i64 x.at_.x, .int .i64 x.at_.y, .int .i64 x.at_.z, .int .i64 x.turn, .int .i64 x.cell, .int .i64 x.size] 29)).alloc (.cells #[.int .i64 0, .int .i64 0, .int .i64 0, .int .i64 0, .int .i64 0, .int .i64 0] 27)).alloc (.cells #[.int .i64 0, .int .i64 0, .int .i64 0, .int .i64 0, .int .i64 0, .int .i64 0] 27) := ⟨_, rfl⟩
 have HX := Lib.hid (show Ext w W0 by rw [hW]; exact (((Ext.refl w).alloc _).alloc _).alloc _)
 have H2 := Lib.hid (show Arr W0 w.heap.size 29 [.int .i64 x.st.tick, .int .i64 x.st.clock, .int .i64 x.st.site, .int .i64 x.st.seq, .int .i64 1, .int .i64 x.box.lo.x, .int .i64 x.box.lo.y, .int .i64 x.box.lo.z, .int .i64 x.box.hi.x, .int .i64 x.box.hi.y, .int .i64 x.box.hi.z, .int .i64 x.at_.x, .int .i64 x.at_.y, .int .i64 x.at_.z, .int .i64 x.turn, .int .i64 x.cell, .int .i64 x.size] by rw [hW]; exact ((Arr.new w 29 [.int .i64 x.st.tick, .int .i64 x.st.clock, .int .i64 x.st.site, .int .i64 x.st.seq, .int .i64 1, .int .i64 x.box.lo.x, .int .i64 x.box.lo.y, .int .i64 x.box.lo.z, .int .i64 x.box.hi.x, .int .i64 x.box.hi.y, .int .i64 x.box.hi.z, .int .i64 x.at_.x, .int .i64 x.at_.y, .int .i64 x.at_.z, .int .i64 x.turn, .int .i64 x.cell, .int .i64 x.size]).alloc _).alloc _)
 have H4 := Lib.hid (show Arr W0 (w.heap.size + 1) 27 [.int .i64 0, .int .i64 0, .int .i64 0, .int .i64 0, .int .i64 0, .int .i64 0] by rw [hW]; have h := Arr.new (w.alloc (.cells #[.int .i64 x.st.tick, .int .i64 x.st.clock, .int .i64 x.st.site, .int .i64 x.st.seq, .int .i64 1, .int .i64 x.box.lo.x, .int .i64 x.box.lo.y, .int .i64 x.box.lo.z, .int .i64 x.box.hi.x, .int .i64 x.box.hi.y, .int .i64 x.box.hi.z, .int .i64 x.at_.x, .int .i64 x.at_.y, .int .i64 x.at_.z, .int .i64 x.turn, .int .i64 x.cell, .int .i64 x.size] 29)) 27 [.int .i64 0, .int .i64 0, .int .i64 0, .int .i64 0, .int .i64 0, .int .i64 0]; simp only [World.size_alloc_] at h; exact (h.alloc _))
 have H5 := Lib.hid (show Arr W0 (w.heap.size + 1 + 1) 27 [.int .i64 0, .int .i64 0, .int .i64 0, .int .i64 0, .int .i64 0, .int .i64 0] by rw [hW]; have h := Arr.new ((w.alloc (.cells #[.int .i64 x.st.tick, .int .i64 x.st.clock, .int .i64 x.st.site, .int .i64 x.st.seq, .int .i64 1, .int .i64 x.box.lo.x, .int .i64 x.box.lo.y, .int .i64 x.box.lo.z, .int .i64 x.box.hi.x, .int .i64 x.box.hi.y, .int .i64 x.box.hi.z, .int .i64 x.at_.x, .int .i64 x.at_.y, .int .i64 x.at_.z, .int .i64 x.turn, .int .i64 x.cell, .int .i64 x.size] 29)).alloc (.cells #[.int .i64 0, .int .i64 0, .int .i64 0, .int .i64 0, .int .i64 0, .int .i64 0] 27)) 27 [.int .i64 0, .int .i64 0, .int .i64 0, .int .i64 0, .int .i64 0, .int .i64 0]; simp only [World.size_alloc_] at h; exact h)
 have hsh := shl_run d hd
 unfold cubeD
 obtain ⟨S, hS⟩ : ∃ S : Int, (2 : Int) ^ d.toNat = S := ⟨_, rfl⟩
 have hw6 : wrap64 ((2 : Int) ^ d.toNat) = (2 : Int) ^ d.toNat := pow_w d hd
 rw [hS] at hsh ⊢
 rw (occs := .pos [2]) [hS] at hw6
 clear hS
 have HI := Lib.hid (show ∀ W : World, Calls Tryz.prog 59 #[.agg #[.int .i64 x.box.lo.x, .int .i64 x.box.lo.y, .int .i64 x.box.lo.z, .int .i64 x.box.hi.x, .int .i64 x.box.hi.y, .int .i64 x.box.hi.z], .agg #[.int .i64 (cubeB S).lo.x, .int .i64 (cubeB S).lo.y, .int .i64 (cubeB S).lo.z, .int .i64 (cubeB S).hi.x, .int .i64 (cubeB S).hi.y, .int .i64 (cubeB S).hi.z]] W fun e w' => e = .returned (.agg #[.int .i64 (interB x.box (cubeB S)).lo.x, .int .i64 (interB x.box (cubeB S)).lo.y, .int .i64 (interB x.box (cubeB S)).lo.z, .int .i64 (interB x.box (cubeB S)).hi.x, .int .i64 (interB x.box (cubeB S)).hi.y, .int .i64 (interB x.box (cubeB S)).hi.z]) ∧ Ext W w' from Intersect_any x.box (cubeB S))
 generalize interB x.box (cubeB S) = rb at HI ⊢
 have HCU := Lib.hid (show ∀ W : World, Calls Tryz.prog 45 #[.int .i64 S] W fun e w' => e = .returned (.agg #[.int .i64 (cubeB S).lo.x, .int .i64 (cubeB S).lo.y, .int .i64 (cubeB S).lo.z, .int .i64 (cubeB S).hi.x, .int .i64 (cubeB S).hi.y, .int .i64 (cubeB S).hi.z]) ∧ Ext W w' from Cube_any S)
 go_enter Tryz.func15, Tryz.ntmps15
 go_upto_region 2 with fail
 rw [← hW]
 clear hW
 have c2 := H2.out.cell; have l2 := H2.out.lt
 go_upto_region 3 with fail
 clear c2 l2
 go_upto_region 5 with fail
 go_upto_region 14 with (first
  | (refine wpList_load_part 27 (.tmp 12) rfl rfl H2.out 5 [.int .i64 x.box.lo.x, .int .i64 x.box.lo.y, .int .i64 x.box.lo.z, .int .i64 x.box.hi.x, .int .i64 x.box.hi.y, .int .i64 x.box.hi.z] rfl rfl _ Tryz.underlying27 rfl (by kernel_rfl) ?_) | (refine wpList_load_part 27 (.tmp 12) rfl rfl (H2.out.alloc _) 5 [.int .i64 x.box.lo.x, .int .i64 x.box.lo.y, .int .i64 x.box.lo.z, .int .i64 x.box.hi.x, .int .i64 x.box.hi.y, .int .i64 x.box.hi.z] rfl rfl _ Tryz.underlying27 rfl (by kernel_rfl) ?_)
  | (refine wpList_store_blk2 27 (.tmp 5) (.tmp 13) rfl rfl H5.out [.int .i64 x.box.lo.x, .int .i64 x.box.lo.y, .int .i64 x.box.lo.z, .int .i64 x.box.hi.x, .int .i64 x.box.hi.y, .int .i64 x.box.hi.z] rfl rfl (by kernel_rfl) rfl rfl rfl ?_; intro W1 hW; replace HX := xRow HX hW (by omega); replace H2 := aRow H2 hW (by omega); replace H4 := aRow H4 hW (by omega); replace H5 := nRow H5 hW; clear hW))
 have HN0 := Lib.hid (fun W : World => HCU.out W)
 have HN1 := Lib.hid (fun W : World => HI.out W)
 have c5 := H5.out.cell; have l5 := H5.out.lt
 (try simp only [Act.put, List.setIfInBounds_toArray, List.set_cons_zero, List.set_cons_succ])
 refine wp_region_near_tail 5 (by assumption) (by kernel_rfl) ?_
 simp only [List.take_succ_cons, List.take_zero, List.drop_succ_cons, List.drop_zero]
 repeat (go_big_quiet_step ((first | (go_at_call 45; with_reducible exact near_call (HN0.out _)) | (go_at_call 59; with_reducible exact near_call (HN1.out _)))))
 refine wpQuiet_nil ?_
 intro w1 hw1
 have hy := Ext.of_near hw1
 clear hw1
 replace HX := xEx HX hy; replace H2 := aEx H2 hy; replace H4 := aEx H4 hy; replace H5 := aEx H5 hy
 clear hy c5 l5
 go_wp2_with (first
  | (refine wpList_store_blk2 27 (.tmp 4) (.tmp 63) rfl rfl H4.out [.int .i64 rb.lo.x, .int .i64 rb.lo.y, .int .i64 rb.lo.z, .int .i64 rb.hi.x, .int .i64 rb.hi.y, .int .i64 rb.hi.z] rfl rfl (by kernel_rfl) rfl rfl rfl ?_; intro W2 hW; replace HX := xRow HX hW (by omega); replace H2 := aRow H2 hW (by omega); replace H5 := aRow H5 hW (by omega); replace H4 := nRow H4 hW; clear hW))
 refine bodyPost_ret (v := .agg #[.int .i64 rb.lo.x, .int .i64 rb.lo.y, .int .i64 rb.lo.z, .int .i64 rb.hi.x, .int .i64 rb.hi.y, .int .i64 rb.hi.z]) ?_ rfl ⟨rfl, HX.out⟩
 exact results_cell_row Tryz.results15 _ _ _ _ _ _ _ rfl H4.out Tryz.underlying27 rfl (by kernel_rfl)

set_option maxRecDepth 100000 in
set_option maxHeartbeats 8000000 in
theorem pBounds_2 (x : Ed) (d : Int) (hd : 2 ≤ d ∧ d ≤ 14) (w : World) : Calls Tryz.prog 15 #[.agg #[.int .i64 x.st.tick, .int .i64 x.st.clock, .int .i64 x.st.site, .int .i64 x.st.seq, .int .i64 2, .int .i64 x.box.lo.x, .int .i64 x.box.lo.y, .int .i64 x.box.lo.z, .int .i64 x.box.hi.x, .int .i64 x.box.hi.y, .int .i64 x.box.hi.z, .int .i64 x.at_.x, .int .i64 x.at_.y, .int .i64 x.at_.z, .int .i64 x.turn, .int .i64 x.cell, .int .i64 x.size], .int .i64 d] w fun e w' => e = .returned (.agg #[.int .i64 (interB (ballBx x.at_ x.size) (cubeD d)).lo.x, .int .i64 (interB (ballBx x.at_ x.size) (cubeD d)).lo.y, .int .i64 (interB (ballBx x.at_ x.size) (cubeD d)).lo.z, .int .i64 (interB (ballBx x.at_ x.size) (cubeD d)).hi.x, .int .i64 (interB (ballBx x.at_ x.size) (cubeD d)).hi.y, .int .i64 (interB (ballBx x.at_ x.size) (cubeD d)).hi.z]) ∧ Ext w w' := by
 have hm := mixed
 have hG := near_old
 obtain ⟨W0, hW⟩ : ∃ W, W = ((w.alloc (.cells #[.int .i64 x.st.tick, .int .i64 x.st.clock, .int .i64 x.st.site, .int .i64 x.st.seq, .int .i64 2, .int .i64 x.box.lo.x, .int .i64 x.box.lo.y, .int .i64 x.box.lo.z, .int .i64 x.box.hi.x, .int .i64 x.box.hi.y, .int .i64 x.box.hi.z, .int .i64 x.at_.x, .int .i64 x.at_.y, .int .i64 x.at_.z, .int .i64 x.turn, .int .i64 x.cell, .int .i64 x.size] 29)).alloc (.cells #[.int .i64 0, .int .i64 0, .int .i64 0, .int .i64 0, .int .i64 0, .int .i64 0] 27)).alloc (.cells #[.int .i64 0, .int .i64 0, .int .i64 0, .int .i64 0, .int .i64 0, .int .i64 0] 27) := ⟨_, rfl⟩
 have HX := Lib.hid (show Ext w W0 by rw [hW]; exact (((Ext.refl w).alloc _).alloc _).alloc _)
 have H2 := Lib.hid (show Arr W0 w.heap.size 29 [.int .i64 x.st.tick, .int .i64 x.st.clock, .int .i64 x.st.site, .int .i64 x.st.seq, .int .i64 2, .int .i64 x.box.lo.x, .int .i64 x.box.lo.y, .int .i64 x.box.lo.z, .int .i64 x.box.hi.x, .int .i64 x.box.hi.y, .int .i64 x.box.hi.z, .int .i64 x.at_.x, .int .i64 x.at_.y, .int .i64 x.at_.z, .int .i64 x.turn, .int .i64 x.cell, .int .i64 x.size] by rw [hW]; exact ((Arr.new w 29 [.int .i64 x.st.tick, .int .i64 x.st.clock, .int .i64 x.st.site, .int .i64 x.st.seq, .int .i64 2, .int .i64 x.box.lo.x, .int .i64 x.box.lo.y, .int .i64 x.box.lo.z, .int .i64 x.box.hi.x, .int .i64 x.box.hi.y, .int .i64 x.box.hi.z, .int .i64 x.at_.x, .int .i64 x.at_.y, .int .i64 x.at_.z, .int .i64 x.turn, .int .i64 x.cell, .int .i64 x.size]).alloc _).alloc _)
 have H4 := Lib.hid (show Arr W0 (w.heap.size + 1) 27 [.int .i64 0, .int .i64 0, .int .i64 0, .int .i64 0, .int .i64 0, .int .i64 0] by rw [hW]; have h := Arr.new (w.alloc (.cells #[.int .i64 x.st.tick, .int .i64 x.st.clock, .int .i64 x.st.site, .int .i64 x.st.seq, .int .i64 2, .int .i64 x.box.lo.x, .int .i64 x.box.lo.y, .int .i64 x.box.lo.z, .int .i64 x.box.hi.x, .int .i64 x.box.hi.y, .int .i64 x.box.hi.z, .int .i64 x.at_.x, .int .i64 x.at_.y, .int .i64 x.at_.z, .int .i64 x.turn, .int .i64 x.cell, .int .i64 x.size] 29)) 27 [.int .i64 0, .int .i64 0, .int .i64 0, .int .i64 0, .int .i64 0, .int .i64 0]; simp only [World.size_alloc_] at h; exact (h.alloc _))
 have H5 := Lib.hid (show Arr W0 (w.heap.size + 1 + 1) 27 [.int .i64 0, .int .i64 0, .int .i64 0, .int .i64 0, .int .i64 0, .int .i64 0] by rw [hW]; have h := Arr.new ((w.alloc (.cells #[.int .i64 x.st.tick, .int .i64 x.st.clock, .int .i64 x.st.site, .int .i64 x.st.seq, .int .i64 2, .int .i64 x.box.lo.x, .int .i64 x.box.lo.y, .int .i64 x.box.lo.z, .int .i64 x.box.hi.x, .int .i64 x.box.hi.y, .int .i64 x.box.hi.z, .int .i64 x.at_.x, .int .i64 x.at_.y, .int .i64 x.at_.z, .int .i64 x.turn, .int .i64 x.cell, .int .i64 x.size] 29)).alloc (.cells #[.int .i64 0, .int .i64 0, .int .i64 0, .int .i64 0, .int .i64 0, .int .i64 0] 27)) 27 [.int .i64 0, .int .i64 0, .int .i64 0, .int .i64 0, .int .i64 0, .int .i64 0]; simp only [World.size_alloc_] at h; exact h)
 have hsh := shl_run d hd
 unfold cubeD
 obtain ⟨S, hS⟩ : ∃ S : Int, (2 : Int) ^ d.toNat = S := ⟨_, rfl⟩
 have hw6 : wrap64 ((2 : Int) ^ d.toNat) = (2 : Int) ^ d.toNat := pow_w d hd
 rw [hS] at hsh ⊢
 rw (occs := .pos [2]) [hS] at hw6
 clear hS
 have HB := Lib.hid (BallBox_any x.at_ x.size)
 generalize ballBx x.at_ x.size = r1 at HB ⊢
 have HI := Lib.hid (show ∀ W : World, Calls Tryz.prog 59 #[.agg #[.int .i64 r1.lo.x, .int .i64 r1.lo.y, .int .i64 r1.lo.z, .int .i64 r1.hi.x, .int .i64 r1.hi.y, .int .i64 r1.hi.z], .agg #[.int .i64 (cubeB S).lo.x, .int .i64 (cubeB S).lo.y, .int .i64 (cubeB S).lo.z, .int .i64 (cubeB S).hi.x, .int .i64 (cubeB S).hi.y, .int .i64 (cubeB S).hi.z]] W fun e w' => e = .returned (.agg #[.int .i64 (interB r1 (cubeB S)).lo.x, .int .i64 (interB r1 (cubeB S)).lo.y, .int .i64 (interB r1 (cubeB S)).lo.z, .int .i64 (interB r1 (cubeB S)).hi.x, .int .i64 (interB r1 (cubeB S)).hi.y, .int .i64 (interB r1 (cubeB S)).hi.z]) ∧ Ext W w' from Intersect_any r1 (cubeB S))
 generalize interB r1 (cubeB S) = rb at HI ⊢
 have HCU := Lib.hid (show ∀ W : World, Calls Tryz.prog 45 #[.int .i64 S] W fun e w' => e = .returned (.agg #[.int .i64 (cubeB S).lo.x, .int .i64 (cubeB S).lo.y, .int .i64 (cubeB S).lo.z, .int .i64 (cubeB S).hi.x, .int .i64 (cubeB S).hi.y, .int .i64 (cubeB S).hi.z]) ∧ Ext W w' from Cube_any S)
 go_enter Tryz.func15, Tryz.ntmps15
 go_upto_region 2 with fail
 rw [← hW]
 clear hW
 have c2 := H2.out.cell; have l2 := H2.out.lt
 go_upto_region 3 with fail
 clear c2 l2
 go_upto_region 4 with fail
 go_upto_region 6 with fail
 go_upto_region 7 with fail
 have c2 := H2.out.cell; have l2 := H2.out.lt
 go_upto_region 14 with (first
  | (refine wpList_load_part 25 (.tmp 16) rfl rfl H2.out 11 [.int .i64 x.at_.x, .int .i64 x.at_.y, .int .i64 x.at_.z] rfl rfl _ Tryz.underlying25 rfl (by kernel_rfl) ?_) | (refine wpList_load_part 25 (.tmp 16) rfl rfl (H2.out.alloc _) 11 [.int .i64 x.at_.x, .int .i64 x.at_.y, .int .i64 x.at_.z] rfl rfl _ Tryz.underlying25 rfl (by kernel_rfl) ?_)
  | (go_at_call 55; refine (HB.out _).mono ?_; rintro e W1 ⟨rfl, hx⟩; replace HX := xEx HX hx; replace H2 := aEx H2 hx; replace H4 := aEx H4 hx; replace H5 := aEx H5 hx; clear hx)
  | (refine wpList_store_blk2 27 (.tmp 5) (.tmp 20) rfl rfl H5.out [.int .i64 r1.lo.x, .int .i64 r1.lo.y, .int .i64 r1.lo.z, .int .i64 r1.hi.x, .int .i64 r1.hi.y, .int .i64 r1.hi.z] rfl rfl (by kernel_rfl) rfl rfl rfl ?_; intro W2 hW; replace HX := xRow HX hW (by omega); replace H2 := aRow H2 hW (by omega); replace H4 := aRow H4 hW (by omega); replace H5 := nRow H5 hW; clear hW))
 clear c2 l2
 have HN0 := Lib.hid (fun W : World => HCU.out W)
 have HN1 := Lib.hid (fun W : World => HI.out W)
 have c5 := H5.out.cell; have l5 := H5.out.lt
 (try simp only [Act.put, List.setIfInBounds_toArray, List.set_cons_zero, List.set_cons_succ])
 refine wp_region_near_tail 5 (by assumption) (by kernel_rfl) ?_
 simp only [List.take_succ_cons, List.take_zero, List.drop_succ_cons, List.drop_zero]
 repeat (go_big_quiet_step ((first | (go_at_call 45; with_reducible exact near_call (HN0.out _)) | (go_at_call 59; with_reducible exact near_call (HN1.out _)))))
 refine wpQuiet_nil ?_
 intro w1 hw1
 have hy := Ext.of_near hw1
 clear hw1
 replace HX := xEx HX hy; replace H2 := aEx H2 hy; replace H4 := aEx H4 hy; replace H5 := aEx H5 hy
 clear hy c5 l5
 go_wp2_with (first
  | (refine wpList_store_blk2 27 (.tmp 4) (.tmp 63) rfl rfl H4.out [.int .i64 rb.lo.x, .int .i64 rb.lo.y, .int .i64 rb.lo.z, .int .i64 rb.hi.x, .int .i64 rb.hi.y, .int .i64 rb.hi.z] rfl rfl (by kernel_rfl) rfl rfl rfl ?_; intro W3 hW; replace HX := xRow HX hW (by omega); replace H2 := aRow H2 hW (by omega); replace H5 := aRow H5 hW (by omega); replace H4 := nRow H4 hW; clear hW))
 refine bodyPost_ret (v := .agg #[.int .i64 rb.lo.x, .int .i64 rb.lo.y, .int .i64 rb.lo.z, .int .i64 rb.hi.x, .int .i64 rb.hi.y, .int .i64 rb.hi.z]) ?_ rfl ⟨rfl, HX.out⟩
 exact results_cell_row Tryz.results15 _ _ _ _ _ _ _ rfl H4.out Tryz.underlying27 rfl (by kernel_rfl)

set_option maxRecDepth 100000 in
set_option maxHeartbeats 8000000 in
theorem pBounds_3 (x : Ed) (d : Int) (hd : 2 ≤ d ∧ d ≤ 14) (w : World) : Calls Tryz.prog 15 #[.agg #[.int .i64 x.st.tick, .int .i64 x.st.clock, .int .i64 x.st.site, .int .i64 x.st.seq, .int .i64 3, .int .i64 x.box.lo.x, .int .i64 x.box.lo.y, .int .i64 x.box.lo.z, .int .i64 x.box.hi.x, .int .i64 x.box.hi.y, .int .i64 x.box.hi.z, .int .i64 x.at_.x, .int .i64 x.at_.y, .int .i64 x.at_.z, .int .i64 x.turn, .int .i64 x.cell, .int .i64 x.size], .int .i64 d] w fun e w' => e = .returned (.agg #[.int .i64 (interB x.box (cubeD d)).lo.x, .int .i64 (interB x.box (cubeD d)).lo.y, .int .i64 (interB x.box (cubeD d)).lo.z, .int .i64 (interB x.box (cubeD d)).hi.x, .int .i64 (interB x.box (cubeD d)).hi.y, .int .i64 (interB x.box (cubeD d)).hi.z]) ∧ Ext w w' := by
 have hm := mixed
 have hG := near_old
 obtain ⟨W0, hW⟩ : ∃ W, W = ((w.alloc (.cells #[.int .i64 x.st.tick, .int .i64 x.st.clock, .int .i64 x.st.site, .int .i64 x.st.seq, .int .i64 3, .int .i64 x.box.lo.x, .int .i64 x.box.lo.y, .int .i64 x.box.lo.z, .int .i64 x.box.hi.x, .int .i64 x.box.hi.y, .int .i64 x.box.hi.z, .int .i64 x.at_.x, .int .i64 x.at_.y, .int .i64 x.at_.z, .int .i64 x.turn, .int .i64 x.cell, .int .i64 x.size] 29)).alloc (.cells #[.int .i64 0, .int .i64 0, .int .i64 0, .int .i64 0, .int .i64 0, .int .i64 0] 27)).alloc (.cells #[.int .i64 0, .int .i64 0, .int .i64 0, .int .i64 0, .int .i64 0, .int .i64 0] 27) := ⟨_, rfl⟩
 have HX := Lib.hid (show Ext w W0 by rw [hW]; exact (((Ext.refl w).alloc _).alloc _).alloc _)
 have H2 := Lib.hid (show Arr W0 w.heap.size 29 [.int .i64 x.st.tick, .int .i64 x.st.clock, .int .i64 x.st.site, .int .i64 x.st.seq, .int .i64 3, .int .i64 x.box.lo.x, .int .i64 x.box.lo.y, .int .i64 x.box.lo.z, .int .i64 x.box.hi.x, .int .i64 x.box.hi.y, .int .i64 x.box.hi.z, .int .i64 x.at_.x, .int .i64 x.at_.y, .int .i64 x.at_.z, .int .i64 x.turn, .int .i64 x.cell, .int .i64 x.size] by rw [hW]; exact ((Arr.new w 29 [.int .i64 x.st.tick, .int .i64 x.st.clock, .int .i64 x.st.site, .int .i64 x.st.seq, .int .i64 3, .int .i64 x.box.lo.x, .int .i64 x.box.lo.y, .int .i64 x.box.lo.z, .int .i64 x.box.hi.x, .int .i64 x.box.hi.y, .int .i64 x.box.hi.z, .int .i64 x.at_.x, .int .i64 x.at_.y, .int .i64 x.at_.z, .int .i64 x.turn, .int .i64 x.cell, .int .i64 x.size]).alloc _).alloc _)
 have H4 := Lib.hid (show Arr W0 (w.heap.size + 1) 27 [.int .i64 0, .int .i64 0, .int .i64 0, .int .i64 0, .int .i64 0, .int .i64 0] by rw [hW]; have h := Arr.new (w.alloc (.cells #[.int .i64 x.st.tick, .int .i64 x.st.clock, .int .i64 x.st.site, .int .i64 x.st.seq, .int .i64 3, .int .i64 x.box.lo.x, .int .i64 x.box.lo.y, .int .i64 x.box.lo.z, .int .i64 x.box.hi.x, .int .i64 x.box.hi.y, .int .i64 x.box.hi.z, .int .i64 x.at_.x, .int .i64 x.at_.y, .int .i64 x.at_.z, .int .i64 x.turn, .int .i64 x.cell, .int .i64 x.size] 29)) 27 [.int .i64 0, .int .i64 0, .int .i64 0, .int .i64 0, .int .i64 0, .int .i64 0]; simp only [World.size_alloc_] at h; exact (h.alloc _))
 have H5 := Lib.hid (show Arr W0 (w.heap.size + 1 + 1) 27 [.int .i64 0, .int .i64 0, .int .i64 0, .int .i64 0, .int .i64 0, .int .i64 0] by rw [hW]; have h := Arr.new ((w.alloc (.cells #[.int .i64 x.st.tick, .int .i64 x.st.clock, .int .i64 x.st.site, .int .i64 x.st.seq, .int .i64 3, .int .i64 x.box.lo.x, .int .i64 x.box.lo.y, .int .i64 x.box.lo.z, .int .i64 x.box.hi.x, .int .i64 x.box.hi.y, .int .i64 x.box.hi.z, .int .i64 x.at_.x, .int .i64 x.at_.y, .int .i64 x.at_.z, .int .i64 x.turn, .int .i64 x.cell, .int .i64 x.size] 29)).alloc (.cells #[.int .i64 0, .int .i64 0, .int .i64 0, .int .i64 0, .int .i64 0, .int .i64 0] 27)) 27 [.int .i64 0, .int .i64 0, .int .i64 0, .int .i64 0, .int .i64 0, .int .i64 0]; simp only [World.size_alloc_] at h; exact h)
 have hsh := shl_run d hd
 unfold cubeD
 obtain ⟨S, hS⟩ : ∃ S : Int, (2 : Int) ^ d.toNat = S := ⟨_, rfl⟩
 have hw6 : wrap64 ((2 : Int) ^ d.toNat) = (2 : Int) ^ d.toNat := pow_w d hd
 rw [hS] at hsh ⊢
 rw (occs := .pos [2]) [hS] at hw6
 clear hS
 have HI := Lib.hid (show ∀ W : World, Calls Tryz.prog 59 #[.agg #[.int .i64 x.box.lo.x, .int .i64 x.box.lo.y, .int .i64 x.box.lo.z, .int .i64 x.box.hi.x, .int .i64 x.box.hi.y, .int .i64 x.box.hi.z], .agg #[.int .i64 (cubeB S).lo.x, .int .i64 (cubeB S).lo.y, .int .i64 (cubeB S).lo.z, .int .i64 (cubeB S).hi.x, .int .i64 (cubeB S).hi.y, .int .i64 (cubeB S).hi.z]] W fun e w' => e = .returned (.agg #[.int .i64 (interB x.box (cubeB S)).lo.x, .int .i64 (interB x.box (cubeB S)).lo.y, .int .i64 (interB x.box (cubeB S)).lo.z, .int .i64 (interB x.box (cubeB S)).hi.x, .int .i64 (interB x.box (cubeB S)).hi.y, .int .i64 (interB x.box (cubeB S)).hi.z]) ∧ Ext W w' from Intersect_any x.box (cubeB S))
 generalize interB x.box (cubeB S) = rb at HI ⊢
 have HCU := Lib.hid (show ∀ W : World, Calls Tryz.prog 45 #[.int .i64 S] W fun e w' => e = .returned (.agg #[.int .i64 (cubeB S).lo.x, .int .i64 (cubeB S).lo.y, .int .i64 (cubeB S).lo.z, .int .i64 (cubeB S).hi.x, .int .i64 (cubeB S).hi.y, .int .i64 (cubeB S).hi.z]) ∧ Ext W w' from Cube_any S)
 go_enter Tryz.func15, Tryz.ntmps15
 go_upto_region 2 with fail
 rw [← hW]
 clear hW
 have c2 := H2.out.cell; have l2 := H2.out.lt
 go_upto_region 3 with fail
 clear c2 l2
 go_upto_region 4 with fail
 go_upto_region 5 with fail
 go_upto_region 14 with (first
  | (refine wpList_load_part 27 (.tmp 12) rfl rfl H2.out 5 [.int .i64 x.box.lo.x, .int .i64 x.box.lo.y, .int .i64 x.box.lo.z, .int .i64 x.box.hi.x, .int .i64 x.box.hi.y, .int .i64 x.box.hi.z] rfl rfl _ Tryz.underlying27 rfl (by kernel_rfl) ?_) | (refine wpList_load_part 27 (.tmp 12) rfl rfl (H2.out.alloc _) 5 [.int .i64 x.box.lo.x, .int .i64 x.box.lo.y, .int .i64 x.box.lo.z, .int .i64 x.box.hi.x, .int .i64 x.box.hi.y, .int .i64 x.box.hi.z] rfl rfl _ Tryz.underlying27 rfl (by kernel_rfl) ?_)
  | (refine wpList_store_blk2 27 (.tmp 5) (.tmp 13) rfl rfl H5.out [.int .i64 x.box.lo.x, .int .i64 x.box.lo.y, .int .i64 x.box.lo.z, .int .i64 x.box.hi.x, .int .i64 x.box.hi.y, .int .i64 x.box.hi.z] rfl rfl (by kernel_rfl) rfl rfl rfl ?_; intro W1 hW; replace HX := xRow HX hW (by omega); replace H2 := aRow H2 hW (by omega); replace H4 := aRow H4 hW (by omega); replace H5 := nRow H5 hW; clear hW))
 have HN0 := Lib.hid (fun W : World => HCU.out W)
 have HN1 := Lib.hid (fun W : World => HI.out W)
 have c5 := H5.out.cell; have l5 := H5.out.lt
 (try simp only [Act.put, List.setIfInBounds_toArray, List.set_cons_zero, List.set_cons_succ])
 refine wp_region_near_tail 5 (by assumption) (by kernel_rfl) ?_
 simp only [List.take_succ_cons, List.take_zero, List.drop_succ_cons, List.drop_zero]
 repeat (go_big_quiet_step ((first | (go_at_call 45; with_reducible exact near_call (HN0.out _)) | (go_at_call 59; with_reducible exact near_call (HN1.out _)))))
 refine wpQuiet_nil ?_
 intro w1 hw1
 have hy := Ext.of_near hw1
 clear hw1
 replace HX := xEx HX hy; replace H2 := aEx H2 hy; replace H4 := aEx H4 hy; replace H5 := aEx H5 hy
 clear hy c5 l5
 go_wp2_with (first
  | (refine wpList_store_blk2 27 (.tmp 4) (.tmp 63) rfl rfl H4.out [.int .i64 rb.lo.x, .int .i64 rb.lo.y, .int .i64 rb.lo.z, .int .i64 rb.hi.x, .int .i64 rb.hi.y, .int .i64 rb.hi.z] rfl rfl (by kernel_rfl) rfl rfl rfl ?_; intro W2 hW; replace HX := xRow HX hW (by omega); replace H2 := aRow H2 hW (by omega); replace H5 := aRow H5 hW (by omega); replace H4 := nRow H4 hW; clear hW))
 refine bodyPost_ret (v := .agg #[.int .i64 rb.lo.x, .int .i64 rb.lo.y, .int .i64 rb.lo.z, .int .i64 rb.hi.x, .int .i64 rb.hi.y, .int .i64 rb.hi.z]) ?_ rfl ⟨rfl, HX.out⟩
 exact results_cell_row Tryz.results15 _ _ _ _ _ _ _ rfl H4.out Tryz.underlying27 rfl (by kernel_rfl)
end Go.Proofs.YtlinhgannajfpaaGreatDoor

/- Bounds of an edit, kind by kind. -/
namespace Go.Proofs.YtlinhgannajfpaaGreatDoor
open Go Go.RowKit

set_option maxRecDepth 100000 in
set_option maxHeartbeats 8000000 in
theorem pBounds_4 (x : Ed) (d : Int) (hd : 2 ≤ d ∧ d ≤ 14) (hs : isT x.turn = true) (he : emptyB x.box = false) (hb : smlB x.box) (w : World) (hA : AxesIn w) : Calls Tryz.prog 15 #[.agg #[.int .i64 x.st.tick, .int .i64 x.st.clock, .int .i64 x.st.site, .int .i64 x.st.seq, .int .i64 4, .int .i64 x.box.lo.x, .int .i64 x.box.lo.y, .int .i64 x.box.lo.z, .int .i64 x.box.hi.x, .int .i64 x.box.hi.y, .int .i64 x.box.hi.z, .int .i64 x.at_.x, .int .i64 x.at_.y, .int .i64 x.at_.z, .int .i64 x.turn, .int .i64 x.cell, .int .i64 x.size], .int .i64 d] w fun e w' => e = .returned (.agg #[.int .i64 (interB (targB x) (cubeD d)).lo.x, .int .i64 (interB (targB x) (cubeD d)).lo.y, .int .i64 (interB (targB x) (cubeD d)).lo.z, .int .i64 (interB (targB x) (cubeD d)).hi.x, .int .i64 (interB (targB x) (cubeD d)).hi.y, .int .i64 (interB (targB x) (cubeD d)).hi.z]) ∧ Ext w w' := by
 have hm := mixed
 have hG := near_old
 obtain ⟨W0, hW⟩ : ∃ W, W = ((w.alloc (.cells #[.int .i64 x.st.tick, .int .i64 x.st.clock, .int .i64 x.st.site, .int .i64 x.st.seq, .int .i64 4, .int .i64 x.box.lo.x, .int .i64 x.box.lo.y, .int .i64 x.box.lo.z, .int .i64 x.box.hi.x, .int .i64 x.box.hi.y, .int .i64 x.box.hi.z, .int .i64 x.at_.x, .int .i64 x.at_.y, .int .i64 x.at_.z, .int .i64 x.turn, .int .i64 x.cell, .int .i64 x.size] 29)).alloc (.cells #[.int .i64 0, .int .i64 0, .int .i64 0, .int .i64 0, .int .i64 0, .int .i64 0] 27)).alloc (.cells #[.int .i64 0, .int .i64 0, .int .i64 0, .int .i64 0, .int .i64 0, .int .i64 0] 27) := ⟨_, rfl⟩
 have HX := Lib.hid (show Ext w W0 by rw [hW]; exact (((Ext.refl w).alloc _).alloc _).alloc _)
 have H2 := Lib.hid (show Arr W0 w.heap.size 29 [.int .i64 x.st.tick, .int .i64 x.st.clock, .int .i64 x.st.site, .int .i64 x.st.seq, .int .i64 4, .int .i64 x.box.lo.x, .int .i64 x.box.lo.y, .int .i64 x.box.lo.z, .int .i64 x.box.hi.x, .int .i64 x.box.hi.y, .int .i64 x.box.hi.z, .int .i64 x.at_.x, .int .i64 x.at_.y, .int .i64 x.at_.z, .int .i64 x.turn, .int .i64 x.cell, .int .i64 x.size] by rw [hW]; exact ((Arr.new w 29 [.int .i64 x.st.tick, .int .i64 x.st.clock, .int .i64 x.st.site, .int .i64 x.st.seq, .int .i64 4, .int .i64 x.box.lo.x, .int .i64 x.box.lo.y, .int .i64 x.box.lo.z, .int .i64 x.box.hi.x, .int .i64 x.box.hi.y, .int .i64 x.box.hi.z, .int .i64 x.at_.x, .int .i64 x.at_.y, .int .i64 x.at_.z, .int .i64 x.turn, .int .i64 x.cell, .int .i64 x.size]).alloc _).alloc _)
 have H4 := Lib.hid (show Arr W0 (w.heap.size + 1) 27 [.int .i64 0, .int .i64 0, .int .i64 0, .int .i64 0, .int .i64 0, .int .i64 0] by rw [hW]; have h := Arr.new (w.alloc (.cells #[.int .i64 x.st.tick, .int .i64 x.st.clock, .int .i64 x.st.site, .int .i64 x.st.seq, .int .i64 4, .int .i64 x.box.lo.x, .int .i64 x.box.lo.y, .int .i64 x.box.lo.z, .int .i64 x.box.hi.x, .int .i64 x.box.hi.y, .int .i64 x.box.hi.z, .int .i64 x.at_.x, .int .i64 x.at_.y, .int .i64 x.at_.z, .int .i64 x.turn, .int .i64 x.cell, .int .i64 x.size] 29)) 27 [.int .i64 0, .int .i64 0, .int .i64 0, .int .i64 0, .int .i64 0, .int .i64 0]; simp only [World.size_alloc_] at h; exact (h.alloc _))
 have H5 := Lib.hid (show Arr W0 (w.heap.size + 1 + 1) 27 [.int .i64 0, .int .i64 0, .int .i64 0, .int .i64 0, .int .i64 0, .int .i64 0] by rw [hW]; have h := Arr.new ((w.alloc (.cells #[.int .i64 x.st.tick, .int .i64 x.st.clock, .int .i64 x.st.site, .int .i64 x.st.seq, .int .i64 4, .int .i64 x.box.lo.x, .int .i64 x.box.lo.y, .int .i64 x.box.lo.z, .int .i64 x.box.hi.x, .int .i64 x.box.hi.y, .int .i64 x.box.hi.z, .int .i64 x.at_.x, .int .i64 x.at_.y, .int .i64 x.at_.z, .int .i64 x.turn, .int .i64 x.cell, .int .i64 x.size] 29)).alloc (.cells #[.int .i64 0, .int .i64 0, .int .i64 0, .int .i64 0, .int .i64 0, .int .i64 0] 27)) 27 [.int .i64 0, .int .i64 0, .int .i64 0, .int .i64 0, .int .i64 0, .int .i64 0]; simp only [World.size_alloc_] at h; exact h)
 have hsh := shl_run d hd
 unfold cubeD
 obtain ⟨S, hS⟩ : ∃ S : Int, (2 : Int) ^ d.toNat = S := ⟨_, rfl⟩
 have hw6 : wrap64 ((2 : Int) ^ d.toNat) = (2 : Int) ^ d.toNat := pow_w d hd
 rw [hS] at hsh ⊢
 rw (occs := .pos [2]) [hS] at hw6
 clear hS
 have hne := (turnB_ne hs he hb).1
 unfold targB
 have HTB := Lib.hid (fun (W : World) (hx : Ext w W) => TurnBox_any x.turn x.box W (hA.ext hx))
 clear hA hs he hb
 generalize turnB x.turn x.box = t at HTB hne ⊢
 have HSZ := Lib.hid (Size_any t)
 rw [size_sub hne] at HSZ
 clear hne
 generalize subP t.hi t.lo = z at HSZ ⊢
 have HAD := Lib.hid (Add_any x.at_ z)
 generalize addP x.at_ z = q at HAD ⊢
 have HI := Lib.hid (show ∀ W : World, Calls Tryz.prog 59 #[.agg #[.int .i64 x.at_.x, .int .i64 x.at_.y, .int .i64 x.at_.z, .int .i64 q.x, .int .i64 q.y, .int .i64 q.z], .agg #[.int .i64 (cubeB S).lo.x, .int .i64 (cubeB S).lo.y, .int .i64 (cubeB S).lo.z, .int .i64 (cubeB S).hi.x, .int .i64 (cubeB S).hi.y, .int .i64 (cubeB S).hi.z]] W fun e w' => e = .returned (.agg #[.int .i64 (interB (⟨x.at_, q⟩ : Bx) (cubeB S)).lo.x, .int .i64 (interB (⟨x.at_, q⟩ : Bx) (cubeB S)).lo.y, .int .i64 (interB (⟨x.at_, q⟩ : Bx) (cubeB S)).lo.z, .int .i64 (interB (⟨x.at_, q⟩ : Bx) (cubeB S)).hi.x, .int .i64 (interB (⟨x.at_, q⟩ : Bx) (cubeB S)).hi.y, .int .i64 (interB (⟨x.at_, q⟩ : Bx) (cubeB S)).hi.z]) ∧ Ext W w' from Intersect_any (⟨x.at_, q⟩ : Bx) (cubeB S))
 generalize interB (⟨x.at_, q⟩ : Bx) (cubeB S) = rb at HI ⊢
 have HCU := Lib.hid (show ∀ W : World, Calls Tryz.prog 45 #[.int .i64 S] W fun e w' => e = .returned (.agg #[.int .i64 (cubeB S).lo.x, .int .i64 (cubeB S).lo.y, .int .i64 (cubeB S).lo.z, .int .i64 (cubeB S).hi.x, .int .i64 (cubeB S).hi.y, .int .i64 (cubeB S).hi.z]) ∧ Ext W w' from Cube_any S)
 go_enter Tryz.func15, Tryz.ntmps15
 go_upto_region 2 with fail
 rw [← hW]
 clear hW
 have c2 := H2.out.cell; have l2 := H2.out.lt
 go_upto_region 3 with fail
 clear c2 l2
 go_upto_region 4 with fail
 go_upto_region 6 with fail
 go_upto_region 8 with fail
 go_upto_region 9 with fail
 have HN0 := Lib.hid (fun (W : World) (hx : Ext W0 W) => HTB.out W (HX.out.trans hx))
 have HN1 := Lib.hid (fun W : World => HSZ.out W)
 have HN2 := Lib.hid (fun W : World => HAD.out W)
 have c2 := H2.out.cell; have l2 := H2.out.lt
 (try simp only [Act.put, List.setIfInBounds_toArray, List.set_cons_zero, List.set_cons_succ])
 refine wp_region_near_tail 12 (by assumption) (by kernel_rfl) ?_
 simp only [List.take_succ_cons, List.take_zero, List.drop_succ_cons, List.drop_zero]
 repeat (go_big_quiet_step ((first | (go_at_call 58; with_reducible exact near_call (HN0.out _ (Ext.of_near ⟨⟨_, _⟩, rfl⟩))) | (go_at_call 57; with_reducible exact near_call (HN1.out _)) | (go_at_call 56; with_reducible exact near_call (HN2.out _)))))
 refine wpQuiet_nil ?_
 intro w1 hw1
 have hy := Ext.of_near hw1
 clear hw1
 replace HX := xEx HX hy; replace H2 := aEx H2 hy; replace H4 := aEx H4 hy; replace H5 := aEx H5 hy
 clear hy c2 l2
 go_upto_region 14 with (first
  | (refine wpList_store_blk2 27 (.tmp 5) (.tmp 34) rfl rfl H5.out [.int .i64 x.at_.x, .int .i64 x.at_.y, .int .i64 x.at_.z, .int .i64 q.x, .int .i64 q.y, .int .i64 q.z] rfl rfl (by kernel_rfl) rfl rfl rfl ?_; intro W1 hW; replace HX := xRow HX hW (by omega); replace H2 := aRow H2 hW (by omega); replace H4 := aRow H4 hW (by omega); replace H5 := nRow H5 hW; clear hW))
 have HN0 := Lib.hid (fun W : World => HCU.out W)
 have HN1 := Lib.hid (fun W : World => HI.out W)
 have c5 := H5.out.cell; have l5 := H5.out.lt
 (try simp only [Act.put, List.setIfInBounds_toArray, List.set_cons_zero, List.set_cons_succ])
 refine wp_region_near_tail 5 (by assumption) (by kernel_rfl) ?_
 simp only [List.take_succ_cons, List.take_zero, List.drop_succ_cons, List.drop_zero]
 repeat (go_big_quiet_step ((first | (go_at_call 45; with_reducible exact near_call (HN0.out _)) | (go_at_call 59; with_reducible exact near_call (HN1.out _)))))
 refine wpQuiet_nil ?_
 intro w1 hw1
 have hy := Ext.of_near hw1
 clear hw1
 replace HX := xEx HX hy; replace H2 := aEx H2 hy; replace H4 := aEx H4 hy; replace H5 := aEx H5 hy
 clear hy c5 l5
 go_wp2_with (first
  | (refine wpList_store_blk2 27 (.tmp 4) (.tmp 63) rfl rfl H4.out [.int .i64 rb.lo.x, .int .i64 rb.lo.y, .int .i64 rb.lo.z, .int .i64 rb.hi.x, .int .i64 rb.hi.y, .int .i64 rb.hi.z] rfl rfl (by kernel_rfl) rfl rfl rfl ?_; intro W2 hW; replace HX := xRow HX hW (by omega); replace H2 := aRow H2 hW (by omega); replace H5 := aRow H5 hW (by omega); replace H4 := nRow H4 hW; clear hW))
 refine bodyPost_ret (v := .agg #[.int .i64 rb.lo.x, .int .i64 rb.lo.y, .int .i64 rb.lo.z, .int .i64 rb.hi.x, .int .i64 rb.hi.y, .int .i64 rb.hi.z]) ?_ rfl ⟨rfl, HX.out⟩
 exact results_cell_row Tryz.results15 _ _ _ _ _ _ _ rfl H4.out Tryz.underlying27 rfl (by kernel_rfl)

set_option maxRecDepth 100000 in
set_option maxHeartbeats 8000000 in
theorem pBounds_5 (x : Ed) (d : Int) (hd : 2 ≤ d ∧ d ≤ 14) (hz : 1 ≤ x.size ∧ x.size ≤ 32768) (w : World) : Calls Tryz.prog 15 #[.agg #[.int .i64 x.st.tick, .int .i64 x.st.clock, .int .i64 x.st.site, .int .i64 x.st.seq, .int .i64 5, .int .i64 x.box.lo.x, .int .i64 x.box.lo.y, .int .i64 x.box.lo.z, .int .i64 x.box.hi.x, .int .i64 x.box.hi.y, .int .i64 x.box.hi.z, .int .i64 x.at_.x, .int .i64 x.at_.y, .int .i64 x.at_.z, .int .i64 x.turn, .int .i64 x.cell, .int .i64 x.size], .int .i64 d] w fun e w' => e = .returned (.agg #[.int .i64 (interB (⟨subP x.at_ ⟨x.size - 1, x.size - 1, x.size - 1⟩, addP x.at_ ⟨x.size, x.size, x.size⟩⟩ : Bx) (cubeD d)).lo.x, .int .i64 (interB (⟨subP x.at_ ⟨x.size - 1, x.size - 1, x.size - 1⟩, addP x.at_ ⟨x.size, x.size, x.size⟩⟩ : Bx) (cubeD d)).lo.y, .int .i64 (interB (⟨subP x.at_ ⟨x.size - 1, x.size - 1, x.size - 1⟩, addP x.at_ ⟨x.size, x.size, x.size⟩⟩ : Bx) (cubeD d)).lo.z, .int .i64 (interB (⟨subP x.at_ ⟨x.size - 1, x.size - 1, x.size - 1⟩, addP x.at_ ⟨x.size, x.size, x.size⟩⟩ : Bx) (cubeD d)).hi.x, .int .i64 (interB (⟨subP x.at_ ⟨x.size - 1, x.size - 1, x.size - 1⟩, addP x.at_ ⟨x.size, x.size, x.size⟩⟩ : Bx) (cubeD d)).hi.y, .int .i64 (interB (⟨subP x.at_ ⟨x.size - 1, x.size - 1, x.size - 1⟩, addP x.at_ ⟨x.size, x.size, x.size⟩⟩ : Bx) (cubeD d)).hi.z]) ∧ Ext w w' := by
 have hm := mixed
 have hG := near_old
 obtain ⟨W0, hW⟩ : ∃ W, W = ((w.alloc (.cells #[.int .i64 x.st.tick, .int .i64 x.st.clock, .int .i64 x.st.site, .int .i64 x.st.seq, .int .i64 5, .int .i64 x.box.lo.x, .int .i64 x.box.lo.y, .int .i64 x.box.lo.z, .int .i64 x.box.hi.x, .int .i64 x.box.hi.y, .int .i64 x.box.hi.z, .int .i64 x.at_.x, .int .i64 x.at_.y, .int .i64 x.at_.z, .int .i64 x.turn, .int .i64 x.cell, .int .i64 x.size] 29)).alloc (.cells #[.int .i64 0, .int .i64 0, .int .i64 0, .int .i64 0, .int .i64 0, .int .i64 0] 27)).alloc (.cells #[.int .i64 0, .int .i64 0, .int .i64 0, .int .i64 0, .int .i64 0, .int .i64 0] 27) := ⟨_, rfl⟩
 have HX := Lib.hid (show Ext w W0 by rw [hW]; exact (((Ext.refl w).alloc _).alloc _).alloc _)
 have H2 := Lib.hid (show Arr W0 w.heap.size 29 [.int .i64 x.st.tick, .int .i64 x.st.clock, .int .i64 x.st.site, .int .i64 x.st.seq, .int .i64 5, .int .i64 x.box.lo.x, .int .i64 x.box.lo.y, .int .i64 x.box.lo.z, .int .i64 x.box.hi.x, .int .i64 x.box.hi.y, .int .i64 x.box.hi.z, .int .i64 x.at_.x, .int .i64 x.at_.y, .int .i64 x.at_.z, .int .i64 x.turn, .int .i64 x.cell, .int .i64 x.size] by rw [hW]; exact ((Arr.new w 29 [.int .i64 x.st.tick, .int .i64 x.st.clock, .int .i64 x.st.site, .int .i64 x.st.seq, .int .i64 5, .int .i64 x.box.lo.x, .int .i64 x.box.lo.y, .int .i64 x.box.lo.z, .int .i64 x.box.hi.x, .int .i64 x.box.hi.y, .int .i64 x.box.hi.z, .int .i64 x.at_.x, .int .i64 x.at_.y, .int .i64 x.at_.z, .int .i64 x.turn, .int .i64 x.cell, .int .i64 x.size]).alloc _).alloc _)
 have H4 := Lib.hid (show Arr W0 (w.heap.size + 1) 27 [.int .i64 0, .int .i64 0, .int .i64 0, .int .i64 0, .int .i64 0, .int .i64 0] by rw [hW]; have h := Arr.new (w.alloc (.cells #[.int .i64 x.st.tick, .int .i64 x.st.clock, .int .i64 x.st.site, .int .i64 x.st.seq, .int .i64 5, .int .i64 x.box.lo.x, .int .i64 x.box.lo.y, .int .i64 x.box.lo.z, .int .i64 x.box.hi.x, .int .i64 x.box.hi.y, .int .i64 x.box.hi.z, .int .i64 x.at_.x, .int .i64 x.at_.y, .int .i64 x.at_.z, .int .i64 x.turn, .int .i64 x.cell, .int .i64 x.size] 29)) 27 [.int .i64 0, .int .i64 0, .int .i64 0, .int .i64 0, .int .i64 0, .int .i64 0]; simp only [World.size_alloc_] at h; exact (h.alloc _))
 have H5 := Lib.hid (show Arr W0 (w.heap.size + 1 + 1) 27 [.int .i64 0, .int .i64 0, .int .i64 0, .int .i64 0, .int .i64 0, .int .i64 0] by rw [hW]; have h := Arr.new ((w.alloc (.cells #[.int .i64 x.st.tick, .int .i64 x.st.clock, .int .i64 x.st.site, .int .i64 x.st.seq, .int .i64 5, .int .i64 x.box.lo.x, .int .i64 x.box.lo.y, .int .i64 x.box.lo.z, .int .i64 x.box.hi.x, .int .i64 x.box.hi.y, .int .i64 x.box.hi.z, .int .i64 x.at_.x, .int .i64 x.at_.y, .int .i64 x.at_.z, .int .i64 x.turn, .int .i64 x.cell, .int .i64 x.size] 29)).alloc (.cells #[.int .i64 0, .int .i64 0, .int .i64 0, .int .i64 0, .int .i64 0, .int .i64 0] 27)) 27 [.int .i64 0, .int .i64 0, .int .i64 0, .int .i64 0, .int .i64 0, .int .i64 0]; simp only [World.size_alloc_] at h; exact h)
 have hsh := shl_run d hd
 unfold cubeD
 obtain ⟨S, hS⟩ : ∃ S : Int, (2 : Int) ^ d.toNat = S := ⟨_, rfl⟩
 have hw6 : wrap64 ((2 : Int) ^ d.toNat) = (2 : Int) ^ d.toNat := pow_w d hd
 rw [hS] at hsh ⊢
 rw (occs := .pos [2]) [hS] at hw6
 clear hS
 have HB := Lib.hid (BallBox_any x.at_ 1)
 have e1 := fill_lo x.at_ x.size
 have e2 := fill_hi x.at_ x.size
 generalize subP x.at_ ⟨x.size - 1, x.size - 1, x.size - 1⟩ = q1 at e1 ⊢
 generalize addP x.at_ ⟨x.size, x.size, x.size⟩ = q2 at e2 ⊢
 generalize ballBx x.at_ 1 = r1 at HB e1 e2
 have HS := Lib.hid (show ∀ W : World, Calls Tryz.prog 46 #[.agg #[.int .i64 r1.lo.x, .int .i64 r1.lo.y, .int .i64 r1.lo.z], .agg #[.int .i64 (x.size - 1), .int .i64 (x.size - 1), .int .i64 (x.size - 1)]] W fun e w' => e = .returned (.agg #[.int .i64 q1.x, .int .i64 q1.y, .int .i64 q1.z]) ∧ Ext W w' by rw [← e1]; exact Sub_any r1.lo ⟨x.size - 1, x.size - 1, x.size - 1⟩)
 have HA := Lib.hid (show ∀ W : World, Calls Tryz.prog 56 #[.agg #[.int .i64 r1.hi.x, .int .i64 r1.hi.y, .int .i64 r1.hi.z], .agg #[.int .i64 (x.size - 1), .int .i64 (x.size - 1), .int .i64 (x.size - 1)]] W fun e w' => e = .returned (.agg #[.int .i64 q2.x, .int .i64 q2.y, .int .i64 q2.z]) ∧ Ext W w' by rw [← e2]; exact Add_any r1.hi ⟨x.size - 1, x.size - 1, x.size - 1⟩)
 clear e1 e2
 have HI := Lib.hid (show ∀ W : World, Calls Tryz.prog 59 #[.agg #[.int .i64 q1.x, .int .i64 q1.y, .int .i64 q1.z, .int .i64 q2.x, .int .i64 q2.y, .int .i64 q2.z], .agg #[.int .i64 (cubeB S).lo.x, .int .i64 (cubeB S).lo.y, .int .i64 (cubeB S).lo.z, .int .i64 (cubeB S).hi.x, .int .i64 (cubeB S).hi.y, .int .i64 (cubeB S).hi.z]] W fun e w' => e = .returned (.agg #[.int .i64 (interB (⟨q1, q2⟩ : Bx) (cubeB S)).lo.x, .int .i64 (interB (⟨q1, q2⟩ : Bx) (cubeB S)).lo.y, .int .i64 (interB (⟨q1, q2⟩ : Bx) (cubeB S)).lo.z, .int .i64 (interB (⟨q1, q2⟩ : Bx) (cubeB S)).hi.x, .int .i64 (interB (⟨q1, q2⟩ : Bx) (cubeB S)).hi.y, .int .i64 (interB (⟨q1, q2⟩ : Bx) (cubeB S)).hi.z]) ∧ Ext W w' from Intersect_any (⟨q1, q2⟩ : Bx) (cubeB S))
 generalize interB (⟨q1, q2⟩ : Bx) (cubeB S) = rb at HI ⊢
 have HCU := Lib.hid (show ∀ W : World, Calls Tryz.prog 45 #[.int .i64 S] W fun e w' => e = .returned (.agg #[.int .i64 (cubeB S).lo.x, .int .i64 (cubeB S).lo.y, .int .i64 (cubeB S).lo.z, .int .i64 (cubeB S).hi.x, .int .i64 (cubeB S).hi.y, .int .i64 (cubeB S).hi.z]) ∧ Ext W w' from Cube_any S)
 go_enter Tryz.func15, Tryz.ntmps15
 go_upto_region 2 with fail
 rw [← hW]
 clear hW
 have c2 := H2.out.cell; have l2 := H2.out.lt
 go_upto_region 3 with fail
 clear c2 l2
 go_upto_region 4 with fail
 go_upto_region 6 with fail
 go_upto_region 8 with fail
 go_upto_region 10 with fail
 go_upto_region 11 with fail
 go_upto_region 12 with (first
  | (refine wpList_load_part 25 (.tmp 37) rfl rfl H2.out 11 [.int .i64 x.at_.x, .int .i64 x.at_.y, .int .i64 x.at_.z] rfl rfl _ Tryz.underlying25 rfl (by kernel_rfl) ?_) | (refine wpList_load_part 25 (.tmp 37) rfl rfl (H2.out.alloc _) 11 [.int .i64 x.at_.x, .int .i64 x.at_.y, .int .i64 x.at_.z] rfl rfl _ Tryz.underlying25 rfl (by kernel_rfl) ?_)
  | (go_at_call 55; refine (HB.out _).mono ?_; rintro e W1 ⟨rfl, hx⟩; replace HX := xEx HX hx; replace H2 := aEx H2 hx; replace H4 := aEx H4 hx; replace H5 := aEx H5 hx; clear hx)
  | (refine wpList_store_blk2 27 (.tmp 5) (.tmp 39) rfl rfl H5.out [.int .i64 r1.lo.x, .int .i64 r1.lo.y, .int .i64 r1.lo.z, .int .i64 r1.hi.x, .int .i64 r1.hi.y, .int .i64 r1.hi.z] rfl rfl (by kernel_rfl) rfl rfl rfl ?_; intro W2 hW; replace HX := xRow HX hW (by omega); replace H2 := aRow H2 hW (by omega); replace H4 := aRow H4 hW (by omega); replace H5 := nRow H5 hW; clear hW))
 have c2 := H2.out.cell; have l2 := H2.out.lt
 go_upto_region 13 with fail
 clear c2 l2
 have HN0 := Lib.hid (fun W : World => HS.out W)
 have HN1 := Lib.hid (fun W : World => HA.out W)
 have c5 := H5.out.cell; have l5 := H5.out.lt
 (try simp only [Act.put, List.setIfInBounds_toArray, List.set_cons_zero, List.set_cons_succ])
 refine wp_region_near_tail 15 (by assumption) (by kernel_rfl) ?_
 simp only [List.take_succ_cons, List.take_zero, List.drop_succ_cons, List.drop_zero]
 repeat (go_big_quiet_step ((first | (go_at_call 46; with_reducible exact near_call (HN0.out _)) | (go_at_call 56; with_reducible exact near_call (HN1.out _)))))
 refine wpQuiet_nil ?_
 intro w1 hw1
 have hy := Ext.of_near hw1
 clear hw1
 replace HX := xEx HX hy; replace H2 := aEx H2 hy; replace H4 := aEx H4 hy; replace H5 := aEx H5 hy
 clear hy c5 l5
 go_upto_region 14 with (first
  | (refine wpList_store_part 25 (.tmp 57) (.tmp 49) rfl rfl rfl H5.out 0 [.int .i64 q1.x, .int .i64 q1.y, .int .i64 q1.z] rfl rfl (by simp) (by kernel_rfl) rfl ?_; intro W3 hW; replace HX := Lib.hid (show Ext w W3 by rw [hW]; exact Ext.setCells (by omega) [.int .i64 q1.x, .int .i64 q1.y, .int .i64 q1.z] 0 HX.out); replace H2 := Lib.hid (show Arr W3 w.heap.size 29 [.int .i64 x.st.tick, .int .i64 x.st.clock, .int .i64 x.st.site, .int .i64 x.st.seq, .int .i64 5, .int .i64 x.box.lo.x, .int .i64 x.box.lo.y, .int .i64 x.box.lo.z, .int .i64 x.box.hi.x, .int .i64 x.box.hi.y, .int .i64 x.box.hi.z, .int .i64 x.at_.x, .int .i64 x.at_.y, .int .i64 x.at_.z, .int .i64 x.turn, .int .i64 x.cell, .int .i64 x.size] by rw [hW]; exact Arr.setCells_other (by omega) [.int .i64 q1.x, .int .i64 q1.y, .int .i64 q1.z] 0 H2.out); replace H4 := Lib.hid (show Arr W3 (w.heap.size + 1) 27 [.int .i64 0, .int .i64 0, .int .i64 0, .int .i64 0, .int .i64 0, .int .i64 0] by rw [hW]; exact Arr.setCells_other (by omega) [.int .i64 q1.x, .int .i64 q1.y, .int .i64 q1.z] 0 H4.out); replace H5 := Lib.hid (show Arr W3 (w.heap.size + 1 + 1) 27 [.int .i64 q1.x, .int .i64 q1.y, .int .i64 q1.z, .int .i64 r1.hi.x, .int .i64 r1.hi.y, .int .i64 r1.hi.z] by rw [hW]; exact H5.out.setCells [.int .i64 q1.x, .int .i64 q1.y, .int .i64 q1.z] 0 (by simp)); clear hW)
  | (refine wpList_store_part 25 (.tmp 58) (.tmp 56) rfl rfl rfl H5.out 3 [.int .i64 q2.x, .int .i64 q2.y, .int .i64 q2.z] rfl rfl (by simp) (by kernel_rfl) rfl ?_; intro W4 hW; replace HX := Lib.hid (show Ext w W4 by rw [hW]; exact Ext.setCells (by omega) [.int .i64 q2.x, .int .i64 q2.y, .int .i64 q2.z] 3 HX.out); replace H2 := Lib.hid (show Arr W4 w.heap.size 29 [.int .i64 x.st.tick, .int .i64 x.st.clock, .int .i64 x.st.site, .int .i64 x.st.seq, .int .i64 5, .int .i64 x.box.lo.x, .int .i64 x.box.lo.y, .int .i64 x.box.lo.z, .int .i64 x.box.hi.x, .int .i64 x.box.hi.y, .int .i64 x.box.hi.z, .int .i64 x.at_.x, .int .i64 x.at_.y, .int .i64 x.at_.z, .int .i64 x.turn, .int .i64 x.cell, .int .i64 x.size] by rw [hW]; exact Arr.setCells_other (by omega) [.int .i64 q2.x, .int .i64 q2.y, .int .i64 q2.z] 3 H2.out); replace H4 := Lib.hid (show Arr W4 (w.heap.size + 1) 27 [.int .i64 0, .int .i64 0, .int .i64 0, .int .i64 0, .int .i64 0, .int .i64 0] by rw [hW]; exact Arr.setCells_other (by omega) [.int .i64 q2.x, .int .i64 q2.y, .int .i64 q2.z] 3 H4.out); replace H5 := Lib.hid (show Arr W4 (w.heap.size + 1 + 1) 27 [.int .i64 q1.x, .int .i64 q1.y, .int .i64 q1.z, .int .i64 q2.x, .int .i64 q2.y, .int .i64 q2.z] by rw [hW]; exact H5.out.setCells [.int .i64 q2.x, .int .i64 q2.y, .int .i64 q2.z] 3 (by simp)); clear hW))
 have HN0 := Lib.hid (fun W : World => HCU.out W)
 have HN1 := Lib.hid (fun W : World => HI.out W)
 have c5 := H5.out.cell; have l5 := H5.out.lt
 (try simp only [Act.put, List.setIfInBounds_toArray, List.set_cons_zero, List.set_cons_succ])
 refine wp_region_near_tail 5 (by assumption) (by kernel_rfl) ?_
 simp only [List.take_succ_cons, List.take_zero, List.drop_succ_cons, List.drop_zero]
 repeat (go_big_quiet_step ((first | (go_at_call 45; with_reducible exact near_call (HN0.out _)) | (go_at_call 59; with_reducible exact near_call (HN1.out _)))))
 refine wpQuiet_nil ?_
 intro w1 hw1
 have hy := Ext.of_near hw1
 clear hw1
 replace HX := xEx HX hy; replace H2 := aEx H2 hy; replace H4 := aEx H4 hy; replace H5 := aEx H5 hy
 clear hy c5 l5
 go_wp2_with (first
  | (refine wpList_store_blk2 27 (.tmp 4) (.tmp 63) rfl rfl H4.out [.int .i64 rb.lo.x, .int .i64 rb.lo.y, .int .i64 rb.lo.z, .int .i64 rb.hi.x, .int .i64 rb.hi.y, .int .i64 rb.hi.z] rfl rfl (by kernel_rfl) rfl rfl rfl ?_; intro W5 hW; replace HX := xRow HX hW (by omega); replace H2 := aRow H2 hW (by omega); replace H5 := aRow H5 hW (by omega); replace H4 := nRow H4 hW; clear hW))
 refine bodyPost_ret (v := .agg #[.int .i64 rb.lo.x, .int .i64 rb.lo.y, .int .i64 rb.lo.z, .int .i64 rb.hi.x, .int .i64 rb.hi.y, .int .i64 rb.hi.z]) ?_ rfl ⟨rfl, HX.out⟩
 exact results_cell_row Tryz.results15 _ _ _ _ _ _ _ rfl H4.out Tryz.underlying27 rfl (by kernel_rfl)
end Go.Proofs.YtlinhgannajfpaaGreatDoor

/- Bounds of an edit, kind by kind. -/
namespace Go.Proofs.YtlinhgannajfpaaGreatDoor
open Go Go.RowKit

set_option maxRecDepth 100000 in
set_option maxHeartbeats 8000000 in
theorem pBounds_n (x : Ed) (n d : Int) (hd : 2 ≤ d ∧ d ≤ 14) (hn : ¬ n = 1 ∧ ¬ n = 2 ∧ ¬ n = 3 ∧ ¬ n = 4 ∧ ¬ n = 5) (w : World) : Calls Tryz.prog 15 #[.agg #[.int .i64 x.st.tick, .int .i64 x.st.clock, .int .i64 x.st.site, .int .i64 x.st.seq, .int .i64 n, .int .i64 x.box.lo.x, .int .i64 x.box.lo.y, .int .i64 x.box.lo.z, .int .i64 x.box.hi.x, .int .i64 x.box.hi.y, .int .i64 x.box.hi.z, .int .i64 x.at_.x, .int .i64 x.at_.y, .int .i64 x.at_.z, .int .i64 x.turn, .int .i64 x.cell, .int .i64 x.size], .int .i64 d] w fun e w' => e = .returned (.agg #[.int .i64 (interB zeroBx (cubeD d)).lo.x, .int .i64 (interB zeroBx (cubeD d)).lo.y, .int .i64 (interB zeroBx (cubeD d)).lo.z, .int .i64 (interB zeroBx (cubeD d)).hi.x, .int .i64 (interB zeroBx (cubeD d)).hi.y, .int .i64 (interB zeroBx (cubeD d)).hi.z]) ∧ Ext w w' := by
 have hm := mixed
 have hG := near_old
 obtain ⟨W0, hW⟩ : ∃ W, W = ((w.alloc (.cells #[.int .i64 x.st.tick, .int .i64 x.st.clock, .int .i64 x.st.site, .int .i64 x.st.seq, .int .i64 n, .int .i64 x.box.lo.x, .int .i64 x.box.lo.y, .int .i64 x.box.lo.z, .int .i64 x.box.hi.x, .int .i64 x.box.hi.y, .int .i64 x.box.hi.z, .int .i64 x.at_.x, .int .i64 x.at_.y, .int .i64 x.at_.z, .int .i64 x.turn, .int .i64 x.cell, .int .i64 x.size] 29)).alloc (.cells #[.int .i64 0, .int .i64 0, .int .i64 0, .int .i64 0, .int .i64 0, .int .i64 0] 27)).alloc (.cells #[.int .i64 0, .int .i64 0, .int .i64 0, .int .i64 0, .int .i64 0, .int .i64 0] 27) := ⟨_, rfl⟩
 have HX := Lib.hid (show Ext w W0 by rw [hW]; exact (((Ext.refl w).alloc _).alloc _).alloc _)
 have H2 := Lib.hid (show Arr W0 w.heap.size 29 [.int .i64 x.st.tick, .int .i64 x.st.clock, .int .i64 x.st.site, .int .i64 x.st.seq, .int .i64 n, .int .i64 x.box.lo.x, .int .i64 x.box.lo.y, .int .i64 x.box.lo.z, .int .i64 x.box.hi.x, .int .i64 x.box.hi.y, .int .i64 x.box.hi.z, .int .i64 x.at_.x, .int .i64 x.at_.y, .int .i64 x.at_.z, .int .i64 x.turn, .int .i64 x.cell, .int .i64 x.size] by rw [hW]; exact ((Arr.new w 29 [.int .i64 x.st.tick, .int .i64 x.st.clock, .int .i64 x.st.site, .int .i64 x.st.seq, .int .i64 n, .int .i64 x.box.lo.x, .int .i64 x.box.lo.y, .int .i64 x.box.lo.z, .int .i64 x.box.hi.x, .int .i64 x.box.hi.y, .int .i64 x.box.hi.z, .int .i64 x.at_.x, .int .i64 x.at_.y, .int .i64 x.at_.z, .int .i64 x.turn, .int .i64 x.cell, .int .i64 x.size]).alloc _).alloc _)
 have H4 := Lib.hid (show Arr W0 (w.heap.size + 1) 27 [.int .i64 0, .int .i64 0, .int .i64 0, .int .i64 0, .int .i64 0, .int .i64 0] by rw [hW]; have h := Arr.new (w.alloc (.cells #[.int .i64 x.st.tick, .int .i64 x.st.clock, .int .i64 x.st.site, .int .i64 x.st.seq, .int .i64 n, .int .i64 x.box.lo.x, .int .i64 x.box.lo.y, .int .i64 x.box.lo.z, .int .i64 x.box.hi.x, .int .i64 x.box.hi.y, .int .i64 x.box.hi.z, .int .i64 x.at_.x, .int .i64 x.at_.y, .int .i64 x.at_.z, .int .i64 x.turn, .int .i64 x.cell, .int .i64 x.size] 29)) 27 [.int .i64 0, .int .i64 0, .int .i64 0, .int .i64 0, .int .i64 0, .int .i64 0]; simp only [World.size_alloc_] at h; exact (h.alloc _))
 have H5 := Lib.hid (show Arr W0 (w.heap.size + 1 + 1) 27 [.int .i64 0, .int .i64 0, .int .i64 0, .int .i64 0, .int .i64 0, .int .i64 0] by rw [hW]; have h := Arr.new ((w.alloc (.cells #[.int .i64 x.st.tick, .int .i64 x.st.clock, .int .i64 x.st.site, .int .i64 x.st.seq, .int .i64 n, .int .i64 x.box.lo.x, .int .i64 x.box.lo.y, .int .i64 x.box.lo.z, .int .i64 x.box.hi.x, .int .i64 x.box.hi.y, .int .i64 x.box.hi.z, .int .i64 x.at_.x, .int .i64 x.at_.y, .int .i64 x.at_.z, .int .i64 x.turn, .int .i64 x.cell, .int .i64 x.size] 29)).alloc (.cells #[.int .i64 0, .int .i64 0, .int .i64 0, .int .i64 0, .int .i64 0, .int .i64 0] 27)) 27 [.int .i64 0, .int .i64 0, .int .i64 0, .int .i64 0, .int .i64 0, .int .i64 0]; simp only [World.size_alloc_] at h; exact h)
 obtain ⟨n1, n2, n3, n4, n5⟩ := hn
 have hsh := shl_run d hd
 unfold cubeD
 obtain ⟨S, hS⟩ : ∃ S : Int, (2 : Int) ^ d.toNat = S := ⟨_, rfl⟩
 have hw6 : wrap64 ((2 : Int) ^ d.toNat) = (2 : Int) ^ d.toNat := pow_w d hd
 rw [hS] at hsh ⊢
 rw (occs := .pos [2]) [hS] at hw6
 clear hS
 have HI := Lib.hid (show ∀ W : World, Calls Tryz.prog 59 #[.agg #[.int .i64 0, .int .i64 0, .int .i64 0, .int .i64 0, .int .i64 0, .int .i64 0], .agg #[.int .i64 (cubeB S).lo.x, .int .i64 (cubeB S).lo.y, .int .i64 (cubeB S).lo.z, .int .i64 (cubeB S).hi.x, .int .i64 (cubeB S).hi.y, .int .i64 (cubeB S).hi.z]] W fun e w' => e = .returned (.agg #[.int .i64 (interB zeroBx (cubeB S)).lo.x, .int .i64 (interB zeroBx (cubeB S)).lo.y, .int .i64 (interB zeroBx (cubeB S)).lo.z, .int .i64 (interB zeroBx (cubeB S)).hi.x, .int .i64 (interB zeroBx (cubeB S)).hi.y, .int .i64 (interB zeroBx (cubeB S)).hi.z]) ∧ Ext W w' from Intersect_any zeroBx (cubeB S))
 generalize interB zeroBx (cubeB S) = rb at HI ⊢
 have HCU := Lib.hid (show ∀ W : World, Calls Tryz.prog 45 #[.int .i64 S] W fun e w' => e = .returned (.agg #[.int .i64 (cubeB S).lo.x, .int .i64 (cubeB S).lo.y, .int .i64 (cubeB S).lo.z, .int .i64 (cubeB S).hi.x, .int .i64 (cubeB S).hi.y, .int .i64 (cubeB S).hi.z]) ∧ Ext W w' from Cube_any S)
 go_enter Tryz.func15, Tryz.ntmps15
 go_upto_region 2 with fail
 rw [← hW]
 clear hW
 have c2 := H2.out.cell; have l2 := H2.out.lt
 go_upto_region 3 with fail
 clear c2 l2
 go_upto_region 4 with fail
 go_upto_region 6 with fail
 go_upto_region 8 with fail
 go_upto_region 10 with fail
 go_upto_region 14 with fail
 have HN0 := Lib.hid (fun W : World => HCU.out W)
 have HN1 := Lib.hid (fun W : World => HI.out W)
 have c5 := H5.out.cell; have l5 := H5.out.lt
 (try simp only [Act.put, List.setIfInBounds_toArray, List.set_cons_zero, List.set_cons_succ])
 refine wp_region_near_tail 5 (by assumption) (by kernel_rfl) ?_
 simp only [List.take_succ_cons, List.take_zero, List.drop_succ_cons, List.drop_zero]
 repeat (go_big_quiet_step ((first | (go_at_call 45; with_reducible exact near_call (HN0.out _)) | (go_at_call 59; with_reducible exact near_call (HN1.out _)))))
 refine wpQuiet_nil ?_
 intro w1 hw1
 have hy := Ext.of_near hw1
 clear hw1
 replace HX := xEx HX hy; replace H2 := aEx H2 hy; replace H4 := aEx H4 hy; replace H5 := aEx H5 hy
 clear hy c5 l5
 go_wp2_with (first
  | (refine wpList_store_blk2 27 (.tmp 4) (.tmp 63) rfl rfl H4.out [.int .i64 rb.lo.x, .int .i64 rb.lo.y, .int .i64 rb.lo.z, .int .i64 rb.hi.x, .int .i64 rb.hi.y, .int .i64 rb.hi.z] rfl rfl (by kernel_rfl) rfl rfl rfl ?_; intro W1 hW; replace HX := xRow HX hW (by omega); replace H2 := aRow H2 hW (by omega); replace H5 := aRow H5 hW (by omega); replace H4 := nRow H4 hW; clear hW))
 refine bodyPost_ret (v := .agg #[.int .i64 rb.lo.x, .int .i64 rb.lo.y, .int .i64 rb.lo.z, .int .i64 rb.hi.x, .int .i64 rb.hi.y, .int .i64 rb.hi.z]) ?_ rfl ⟨rfl, HX.out⟩
 exact results_cell_row Tryz.results15 _ _ _ _ _ _ _ rfl H4.out Tryz.underlying27 rfl (by kernel_rfl)
end Go.Proofs.YtlinhgannajfpaaGreatDoor

/- Bounds of an edit, kind by kind. -/
namespace Go.Proofs.YtlinhgannajfpaaGreatDoor
open Go Go.RowKit

set_option maxRecDepth 100000 in
set_option maxHeartbeats 8000000 in
theorem refBounds_1 (x : Ed) (d : Int) (hd : 2 ≤ d ∧ d ≤ 14) (w : World) : Calls Tryz.prog 16 #[.agg #[.int .i64 x.st.tick, .int .i64 x.st.clock, .int .i64 x.st.site, .int .i64 x.st.seq, .int .i64 1, .int .i64 x.box.lo.x, .int .i64 x.box.lo.y, .int .i64 x.box.lo.z, .int .i64 x.box.hi.x, .int .i64 x.box.hi.y, .int .i64 x.box.hi.z, .int .i64 x.at_.x, .int .i64 x.at_.y, .int .i64 x.at_.z, .int .i64 x.turn, .int .i64 x.cell, .int .i64 x.size], .int .i64 d] w fun e w' => e = .returned (.agg #[.int .i64 (interB x.box (cubeD d)).lo.x, .int .i64 (interB x.box (cubeD d)).lo.y, .int .i64 (interB x.box (cubeD d)).lo.z, .int .i64 (interB x.box (cubeD d)).hi.x, .int .i64 (interB x.box (cubeD d)).hi.y, .int .i64 (interB x.box (cubeD d)).hi.z]) ∧ Ext w w' := by
 have hm := mixed
 have hG := near_old
 obtain ⟨W0, hW⟩ : ∃ W, W = (w.alloc (.cells #[.int .i64 x.st.tick, .int .i64 x.st.clock, .int .i64 x.st.site, .int .i64 x.st.seq, .int .i64 1, .int .i64 x.box.lo.x, .int .i64 x.box.lo.y, .int .i64 x.box.lo.z, .int .i64 x.box.hi.x, .int .i64 x.box.hi.y, .int .i64 x.box.hi.z, .int .i64 x.at_.x, .int .i64 x.at_.y, .int .i64 x.at_.z, .int .i64 x.turn, .int .i64 x.cell, .int .i64 x.size] 29)).alloc (.cells #[.int .i64 0, .int .i64 0, .int .i64 0, .int .i64 0, .int .i64 0, .int .i64 0] 27) := ⟨_, rfl⟩
 have HX := Lib.hid (show Ext w W0 by rw [hW]; exact ((Ext.refl w).alloc _).alloc _)
 have H2 := Lib.hid (show Arr W0 w.heap.size 29 [.int .i64 x.st.tick, .int .i64 x.st.clock, .int .i64 x.st.site, .int .i64 x.st.seq, .int .i64 1, .int .i64 x.box.lo.x, .int .i64 x.box.lo.y, .int .i64 x.box.lo.z, .int .i64 x.box.hi.x, .int .i64 x.box.hi.y, .int .i64 x.box.hi.z, .int .i64 x.at_.x, .int .i64 x.at_.y, .int .i64 x.at_.z, .int .i64 x.turn, .int .i64 x.cell, .int .i64 x.size] by rw [hW]; exact (Arr.new w 29 [.int .i64 x.st.tick, .int .i64 x.st.clock, .int .i64 x.st.site, .int .i64 x.st.seq, .int .i64 1, .int .i64 x.box.lo.x, .int .i64 x.box.lo.y, .int .i64 x.box.lo.z, .int .i64 x.box.hi.x, .int .i64 x.box.hi.y, .int .i64 x.box.hi.z, .int .i64 x.at_.x, .int .i64 x.at_.y, .int .i64 x.at_.z, .int .i64 x.turn, .int .i64 x.cell, .int .i64 x.size]).alloc _)
 have H4 := Lib.hid (show Arr W0 (w.heap.size + 1) 27 [.int .i64 0, .int .i64 0, .int .i64 0, .int .i64 0, .int .i64 0, .int .i64 0] by rw [hW]; have h := Arr.new (w.alloc (.cells #[.int .i64 x.st.tick, .int .i64 x.st.clock, .int .i64 x.st.site, .int .i64 x.st.seq, .int .i64 1, .int .i64 x.box.lo.x, .int .i64 x.box.lo.y, .int .i64 x.box.lo.z, .int .i64 x.box.hi.x, .int .i64 x.box.hi.y, .int .i64 x.box.hi.z, .int .i64 x.at_.x, .int .i64 x.at_.y, .int .i64 x.at_.z, .int .i64 x.turn, .int .i64 x.cell, .int .i64 x.size] 29)) 27 [.int .i64 0, .int .i64 0, .int .i64 0, .int .i64 0, .int .i64 0, .int .i64 0]; simp only [World.size_alloc_] at h; exact h)
 have HCC := refcube_any d hd
 unfold cubeD at HCC
 have hsh := shl_run d hd
 unfold cubeD
 obtain ⟨S, hS⟩ : ∃ S : Int, (2 : Int) ^ d.toNat = S := ⟨_, rfl⟩
 have hw6 : wrap64 ((2 : Int) ^ d.toNat) = (2 : Int) ^ d.toNat := pow_w d hd
 rw [hS] at hsh HCC ⊢
 rw (occs := .pos [2]) [hS] at hw6
 clear hS
 have HI := Lib.hid (show ∀ W : World, Calls Tryz.prog 62 #[.agg #[.int .i64 x.box.lo.x, .int .i64 x.box.lo.y, .int .i64 x.box.lo.z, .int .i64 x.box.hi.x, .int .i64 x.box.hi.y, .int .i64 x.box.hi.z], .agg #[.int .i64 (cubeB S).lo.x, .int .i64 (cubeB S).lo.y, .int .i64 (cubeB S).lo.z, .int .i64 (cubeB S).hi.x, .int .i64 (cubeB S).hi.y, .int .i64 (cubeB S).hi.z]] W fun e w' => e = .returned (.agg #[.int .i64 (interB x.box (cubeB S)).lo.x, .int .i64 (interB x.box (cubeB S)).lo.y, .int .i64 (interB x.box (cubeB S)).lo.z, .int .i64 (interB x.box (cubeB S)).hi.x, .int .i64 (interB x.box (cubeB S)).hi.y, .int .i64 (interB x.box (cubeB S)).hi.z]) ∧ Ext W w' from refIntersect_any x.box (cubeB S))
 generalize interB x.box (cubeB S) = rb at HI ⊢
 have HCU := Lib.hid (show ∀ W : World, Calls Tryz.prog 51 #[.int .i64 d] W fun e w' => e = .returned (.agg #[.int .i64 (cubeB S).lo.x, .int .i64 (cubeB S).lo.y, .int .i64 (cubeB S).lo.z, .int .i64 (cubeB S).hi.x, .int .i64 (cubeB S).hi.y, .int .i64 (cubeB S).hi.z]) ∧ Ext W w' from HCC)
 clear HCC
 go_enter Tryz.func16, Tryz.ntmps16
 go_upto_region 1 with fail
 rw [← hW]
 clear hW
 go_upto_region 2 with (first
  | (refine wpList_store_blk2 27 (.tmp 5) (.tmp 7) rfl rfl (Arr.new W0 27 [.int .i64 0, .int .i64 0, .int .i64 0, .int .i64 0, .int .i64 0, .int .i64 0]) [.int .i64 0, .int .i64 0, .int .i64 0, .int .i64 0, .int .i64 0, .int .i64 0] rfl rfl (by kernel_rfl) rfl rfl rfl ?_; intro W1 hW; have Q2_5 := aLt H2; have Q4_5 := aLt H4; have Qw_5 := Lib.hid HX.out.size; replace HX := xNew HX hW; replace H2 := aNew H2 hW; replace H4 := aNew H4 hW; have H5 := nNew hW; clear hW))
 obtain ⟨b5, hb5⟩ : ∃ n, n = W0.heap.size := ⟨_, rfl⟩
 rw [← hb5] at H5 Q2_5 Q4_5 Qw_5 ⊢
 clear hb5
 have c2 := H2.out.cell; have l2 := H2.out.lt
 go_upto_region 3 with fail
 clear c2 l2
 go_upto_region 5 with fail
 go_upto_region 13 with (first
  | (refine wpList_load_part 27 (.tmp 13) rfl rfl H2.out 5 [.int .i64 x.box.lo.x, .int .i64 x.box.lo.y, .int .i64 x.box.lo.z, .int .i64 x.box.hi.x, .int .i64 x.box.hi.y, .int .i64 x.box.hi.z] rfl rfl _ Tryz.underlying27 rfl (by kernel_rfl) ?_) | (refine wpList_load_part 27 (.tmp 13) rfl rfl (H2.out.alloc _) 5 [.int .i64 x.box.lo.x, .int .i64 x.box.lo.y, .int .i64 x.box.lo.z, .int .i64 x.box.hi.x, .int .i64 x.box.hi.y, .int .i64 x.box.hi.z] rfl rfl _ Tryz.underlying27 rfl (by kernel_rfl) ?_)
  | (refine wpList_store_blk2 27 (.tmp 5) (.tmp 14) rfl rfl H5.out [.int .i64 x.box.lo.x, .int .i64 x.box.lo.y, .int .i64 x.box.lo.z, .int .i64 x.box.hi.x, .int .i64 x.box.hi.y, .int .i64 x.box.hi.z] rfl rfl (by kernel_rfl) rfl rfl rfl ?_; intro W2 hW; replace HX := xRow HX hW (by have := Qw_5.out; omega); replace H2 := aRow H2 hW (by have := Q2_5.out; omega); replace H4 := aRow H4 hW (by have := Q4_5.out; omega); replace H5 := nRow H5 hW; clear hW))
 have HN0 := Lib.hid (fun W : World => HCU.out W)
 have HN1 := Lib.hid (fun W : World => HI.out W)
 have c5 := H5.out.cell; have l5 := H5.out.lt
 (try simp only [Act.put, List.setIfInBounds_toArray, List.set_cons_zero, List.set_cons_succ])
 refine wp_region_near_tail 4 (by assumption) (by kernel_rfl) ?_
 simp only [List.take_succ_cons, List.take_zero, List.drop_succ_cons, List.drop_zero]
 repeat (go_big_quiet_step ((first | (go_at_call 51; with_reducible exact near_call (HN0.out _)) | (go_at_call 62; with_reducible exact near_call (HN1.out _)))))
 refine wpQuiet_nil ?_
 intro w1 hw1
 have hy := Ext.of_near hw1
 clear hw1
 replace HX := xEx HX hy; replace H2 := aEx H2 hy; replace H4 := aEx H4 hy; replace H5 := aEx H5 hy
 clear hy c5 l5
 go_wp2_with (first
  | (refine wpList_store_blk2 27 (.tmp 4) (.tmp 51) rfl rfl H4.out [.int .i64 rb.lo.x, .int .i64 rb.lo.y, .int .i64 rb.lo.z, .int .i64 rb.hi.x, .int .i64 rb.hi.y, .int .i64 rb.hi.z] rfl rfl (by kernel_rfl) rfl rfl rfl ?_; intro W3 hW; replace HX := xRow HX hW (by omega); replace H2 := aRow H2 hW (by omega); replace H5 := aRow H5 hW (by have := Q4_5.out; omega); replace H4 := nRow H4 hW; clear hW))
 refine bodyPost_ret (v := .agg #[.int .i64 rb.lo.x, .int .i64 rb.lo.y, .int .i64 rb.lo.z, .int .i64 rb.hi.x, .int .i64 rb.hi.y, .int .i64 rb.hi.z]) ?_ rfl ⟨rfl, HX.out⟩
 exact results_cell_row Tryz.results16 _ _ _ _ _ _ _ rfl H4.out Tryz.underlying27 rfl (by kernel_rfl)

set_option maxRecDepth 100000 in
set_option maxHeartbeats 8000000 in
theorem refBounds_2 (x : Ed) (d : Int) (hd : 2 ≤ d ∧ d ≤ 14) (w : World) : Calls Tryz.prog 16 #[.agg #[.int .i64 x.st.tick, .int .i64 x.st.clock, .int .i64 x.st.site, .int .i64 x.st.seq, .int .i64 2, .int .i64 x.box.lo.x, .int .i64 x.box.lo.y, .int .i64 x.box.lo.z, .int .i64 x.box.hi.x, .int .i64 x.box.hi.y, .int .i64 x.box.hi.z, .int .i64 x.at_.x, .int .i64 x.at_.y, .int .i64 x.at_.z, .int .i64 x.turn, .int .i64 x.cell, .int .i64 x.size], .int .i64 d] w fun e w' => e = .returned (.agg #[.int .i64 (interB (ballBx x.at_ x.size) (cubeD d)).lo.x, .int .i64 (interB (ballBx x.at_ x.size) (cubeD d)).lo.y, .int .i64 (interB (ballBx x.at_ x.size) (cubeD d)).lo.z, .int .i64 (interB (ballBx x.at_ x.size) (cubeD d)).hi.x, .int .i64 (interB (ballBx x.at_ x.size) (cubeD d)).hi.y, .int .i64 (interB (ballBx x.at_ x.size) (cubeD d)).hi.z]) ∧ Ext w w' := by
 have hm := mixed
 have hG := near_old
 obtain ⟨W0, hW⟩ : ∃ W, W = (w.alloc (.cells #[.int .i64 x.st.tick, .int .i64 x.st.clock, .int .i64 x.st.site, .int .i64 x.st.seq, .int .i64 2, .int .i64 x.box.lo.x, .int .i64 x.box.lo.y, .int .i64 x.box.lo.z, .int .i64 x.box.hi.x, .int .i64 x.box.hi.y, .int .i64 x.box.hi.z, .int .i64 x.at_.x, .int .i64 x.at_.y, .int .i64 x.at_.z, .int .i64 x.turn, .int .i64 x.cell, .int .i64 x.size] 29)).alloc (.cells #[.int .i64 0, .int .i64 0, .int .i64 0, .int .i64 0, .int .i64 0, .int .i64 0] 27) := ⟨_, rfl⟩
 have HX := Lib.hid (show Ext w W0 by rw [hW]; exact ((Ext.refl w).alloc _).alloc _)
 have H2 := Lib.hid (show Arr W0 w.heap.size 29 [.int .i64 x.st.tick, .int .i64 x.st.clock, .int .i64 x.st.site, .int .i64 x.st.seq, .int .i64 2, .int .i64 x.box.lo.x, .int .i64 x.box.lo.y, .int .i64 x.box.lo.z, .int .i64 x.box.hi.x, .int .i64 x.box.hi.y, .int .i64 x.box.hi.z, .int .i64 x.at_.x, .int .i64 x.at_.y, .int .i64 x.at_.z, .int .i64 x.turn, .int .i64 x.cell, .int .i64 x.size] by rw [hW]; exact (Arr.new w 29 [.int .i64 x.st.tick, .int .i64 x.st.clock, .int .i64 x.st.site, .int .i64 x.st.seq, .int .i64 2, .int .i64 x.box.lo.x, .int .i64 x.box.lo.y, .int .i64 x.box.lo.z, .int .i64 x.box.hi.x, .int .i64 x.box.hi.y, .int .i64 x.box.hi.z, .int .i64 x.at_.x, .int .i64 x.at_.y, .int .i64 x.at_.z, .int .i64 x.turn, .int .i64 x.cell, .int .i64 x.size]).alloc _)
 have H4 := Lib.hid (show Arr W0 (w.heap.size + 1) 27 [.int .i64 0, .int .i64 0, .int .i64 0, .int .i64 0, .int .i64 0, .int .i64 0] by rw [hW]; have h := Arr.new (w.alloc (.cells #[.int .i64 x.st.tick, .int .i64 x.st.clock, .int .i64 x.st.site, .int .i64 x.st.seq, .int .i64 2, .int .i64 x.box.lo.x, .int .i64 x.box.lo.y, .int .i64 x.box.lo.z, .int .i64 x.box.hi.x, .int .i64 x.box.hi.y, .int .i64 x.box.hi.z, .int .i64 x.at_.x, .int .i64 x.at_.y, .int .i64 x.at_.z, .int .i64 x.turn, .int .i64 x.cell, .int .i64 x.size] 29)) 27 [.int .i64 0, .int .i64 0, .int .i64 0, .int .i64 0, .int .i64 0, .int .i64 0]; simp only [World.size_alloc_] at h; exact h)
 have HCC := refcube_any d hd
 unfold cubeD at HCC
 have hsh := shl_run d hd
 unfold cubeD
 obtain ⟨S, hS⟩ : ∃ S : Int, (2 : Int) ^ d.toNat = S := ⟨_, rfl⟩
 have hw6 : wrap64 ((2 : Int) ^ d.toNat) = (2 : Int) ^ d.toNat := pow_w d hd
 rw [hS] at hsh HCC ⊢
 rw (occs := .pos [2]) [hS] at hw6
 clear hS
 have HB := Lib.hid (refBallBox_any x.at_ x.size)
 generalize ballBx x.at_ x.size = r1 at HB ⊢
 have HI := Lib.hid (show ∀ W : World, Calls Tryz.prog 62 #[.agg #[.int .i64 r1.lo.x, .int .i64 r1.lo.y, .int .i64 r1.lo.z, .int .i64 r1.hi.x, .int .i64 r1.hi.y, .int .i64 r1.hi.z], .agg #[.int .i64 (cubeB S).lo.x, .int .i64 (cubeB S).lo.y, .int .i64 (cubeB S).lo.z, .int .i64 (cubeB S).hi.x, .int .i64 (cubeB S).hi.y, .int .i64 (cubeB S).hi.z]] W fun e w' => e = .returned (.agg #[.int .i64 (interB r1 (cubeB S)).lo.x, .int .i64 (interB r1 (cubeB S)).lo.y, .int .i64 (interB r1 (cubeB S)).lo.z, .int .i64 (interB r1 (cubeB S)).hi.x, .int .i64 (interB r1 (cubeB S)).hi.y, .int .i64 (interB r1 (cubeB S)).hi.z]) ∧ Ext W w' from refIntersect_any r1 (cubeB S))
 generalize interB r1 (cubeB S) = rb at HI ⊢
 have HCU := Lib.hid (show ∀ W : World, Calls Tryz.prog 51 #[.int .i64 d] W fun e w' => e = .returned (.agg #[.int .i64 (cubeB S).lo.x, .int .i64 (cubeB S).lo.y, .int .i64 (cubeB S).lo.z, .int .i64 (cubeB S).hi.x, .int .i64 (cubeB S).hi.y, .int .i64 (cubeB S).hi.z]) ∧ Ext W w' from HCC)
 clear HCC
 go_enter Tryz.func16, Tryz.ntmps16
 go_upto_region 1 with fail
 rw [← hW]
 clear hW
 go_upto_region 2 with (first
  | (refine wpList_store_blk2 27 (.tmp 5) (.tmp 7) rfl rfl (Arr.new W0 27 [.int .i64 0, .int .i64 0, .int .i64 0, .int .i64 0, .int .i64 0, .int .i64 0]) [.int .i64 0, .int .i64 0, .int .i64 0, .int .i64 0, .int .i64 0, .int .i64 0] rfl rfl (by kernel_rfl) rfl rfl rfl ?_; intro W1 hW; have Q2_5 := aLt H2; have Q4_5 := aLt H4; have Qw_5 := Lib.hid HX.out.size; replace HX := xNew HX hW; replace H2 := aNew H2 hW; replace H4 := aNew H4 hW; have H5 := nNew hW; clear hW))
 obtain ⟨b5, hb5⟩ : ∃ n, n = W0.heap.size := ⟨_, rfl⟩
 rw [← hb5] at H5 Q2_5 Q4_5 Qw_5 ⊢
 clear hb5
 have c2 := H2.out.cell; have l2 := H2.out.lt
 go_upto_region 3 with fail
 clear c2 l2
 go_upto_region 4 with fail
 go_upto_region 6 with fail
 go_upto_region 7 with fail
 have c2 := H2.out.cell; have l2 := H2.out.lt
 go_upto_region 13 with (first
  | (refine wpList_load_part 25 (.tmp 17) rfl rfl H2.out 11 [.int .i64 x.at_.x, .int .i64 x.at_.y, .int .i64 x.at_.z] rfl rfl _ Tryz.underlying25 rfl (by kernel_rfl) ?_) | (refine wpList_load_part 25 (.tmp 17) rfl rfl (H2.out.alloc _) 11 [.int .i64 x.at_.x, .int .i64 x.at_.y, .int .i64 x.at_.z] rfl rfl _ Tryz.underlying25 rfl (by kernel_rfl) ?_)
  | (go_at_call 60; refine (HB.out _).mono ?_; rintro e W2 ⟨rfl, hx⟩; replace HX := xEx HX hx; replace H2 := aEx H2 hx; replace H4 := aEx H4 hx; replace H5 := aEx H5 hx; clear hx)
  | (refine wpList_store_blk2 27 (.tmp 5) (.tmp 21) rfl rfl H5.out [.int .i64 r1.lo.x, .int .i64 r1.lo.y, .int .i64 r1.lo.z, .int .i64 r1.hi.x, .int .i64 r1.hi.y, .int .i64 r1.hi.z] rfl rfl (by kernel_rfl) rfl rfl rfl ?_; intro W3 hW; replace HX := xRow HX hW (by have := Qw_5.out; omega); replace H2 := aRow H2 hW (by have := Q2_5.out; omega); replace H4 := aRow H4 hW (by have := Q4_5.out; omega); replace H5 := nRow H5 hW; clear hW))
 clear c2 l2
 have HN0 := Lib.hid (fun W : World => HCU.out W)
 have HN1 := Lib.hid (fun W : World => HI.out W)
 have c5 := H5.out.cell; have l5 := H5.out.lt
 (try simp only [Act.put, List.setIfInBounds_toArray, List.set_cons_zero, List.set_cons_succ])
 refine wp_region_near_tail 4 (by assumption) (by kernel_rfl) ?_
 simp only [List.take_succ_cons, List.take_zero, List.drop_succ_cons, List.drop_zero]
 repeat (go_big_quiet_step ((first | (go_at_call 51; with_reducible exact near_call (HN0.out _)) | (go_at_call 62; with_reducible exact near_call (HN1.out _)))))
 refine wpQuiet_nil ?_
 intro w1 hw1
 have hy := Ext.of_near hw1
 clear hw1
 replace HX := xEx HX hy; replace H2 := aEx H2 hy; replace H4 := aEx H4 hy; replace H5 := aEx H5 hy
 clear hy c5 l5
 go_wp2_with (first
  | (refine wpList_store_blk2 27 (.tmp 4) (.tmp 51) rfl rfl H4.out [.int .i64 rb.lo.x, .int .i64 rb.lo.y, .int .i64 rb.lo.z, .int .i64 rb.hi.x, .int .i64 rb.hi.y, .int .i64 rb.hi.z] rfl rfl (by kernel_rfl) rfl rfl rfl ?_; intro W4 hW; replace HX := xRow HX hW (by omega); replace H2 := aRow H2 hW (by omega); replace H5 := aRow H5 hW (by have := Q4_5.out; omega); replace H4 := nRow H4 hW; clear hW))
 refine bodyPost_ret (v := .agg #[.int .i64 rb.lo.x, .int .i64 rb.lo.y, .int .i64 rb.lo.z, .int .i64 rb.hi.x, .int .i64 rb.hi.y, .int .i64 rb.hi.z]) ?_ rfl ⟨rfl, HX.out⟩
 exact results_cell_row Tryz.results16 _ _ _ _ _ _ _ rfl H4.out Tryz.underlying27 rfl (by kernel_rfl)

set_option maxRecDepth 100000 in
set_option maxHeartbeats 8000000 in
theorem refBounds_3 (x : Ed) (d : Int) (hd : 2 ≤ d ∧ d ≤ 14) (w : World) : Calls Tryz.prog 16 #[.agg #[.int .i64 x.st.tick, .int .i64 x.st.clock, .int .i64 x.st.site, .int .i64 x.st.seq, .int .i64 3, .int .i64 x.box.lo.x, .int .i64 x.box.lo.y, .int .i64 x.box.lo.z, .int .i64 x.box.hi.x, .int .i64 x.box.hi.y, .int .i64 x.box.hi.z, .int .i64 x.at_.x, .int .i64 x.at_.y, .int .i64 x.at_.z, .int .i64 x.turn, .int .i64 x.cell, .int .i64 x.size], .int .i64 d] w fun e w' => e = .returned (.agg #[.int .i64 (interB x.box (cubeD d)).lo.x, .int .i64 (interB x.box (cubeD d)).lo.y, .int .i64 (interB x.box (cubeD d)).lo.z, .int .i64 (interB x.box (cubeD d)).hi.x, .int .i64 (interB x.box (cubeD d)).hi.y, .int .i64 (interB x.box (cubeD d)).hi.z]) ∧ Ext w w' := by
 have hm := mixed
 have hG := near_old
 obtain ⟨W0, hW⟩ : ∃ W, W = (w.alloc (.cells #[.int .i64 x.st.tick, .int .i64 x.st.clock, .int .i64 x.st.site, .int .i64 x.st.seq, .int .i64 3, .int .i64 x.box.lo.x, .int .i64 x.box.lo.y, .int .i64 x.box.lo.z, .int .i64 x.box.hi.x, .int .i64 x.box.hi.y, .int .i64 x.box.hi.z, .int .i64 x.at_.x, .int .i64 x.at_.y, .int .i64 x.at_.z, .int .i64 x.turn, .int .i64 x.cell, .int .i64 x.size] 29)).alloc (.cells #[.int .i64 0, .int .i64 0, .int .i64 0, .int .i64 0, .int .i64 0, .int .i64 0] 27) := ⟨_, rfl⟩
 have HX := Lib.hid (show Ext w W0 by rw [hW]; exact ((Ext.refl w).alloc _).alloc _)
 have H2 := Lib.hid (show Arr W0 w.heap.size 29 [.int .i64 x.st.tick, .int .i64 x.st.clock, .int .i64 x.st.site, .int .i64 x.st.seq, .int .i64 3, .int .i64 x.box.lo.x, .int .i64 x.box.lo.y, .int .i64 x.box.lo.z, .int .i64 x.box.hi.x, .int .i64 x.box.hi.y, .int .i64 x.box.hi.z, .int .i64 x.at_.x, .int .i64 x.at_.y, .int .i64 x.at_.z, .int .i64 x.turn, .int .i64 x.cell, .int .i64 x.size] by rw [hW]; exact (Arr.new w 29 [.int .i64 x.st.tick, .int .i64 x.st.clock, .int .i64 x.st.site, .int .i64 x.st.seq, .int .i64 3, .int .i64 x.box.lo.x, .int .i64 x.box.lo.y, .int .i64 x.box.lo.z, .int .i64 x.box.hi.x, .int .i64 x.box.hi.y, .int .i64 x.box.hi.z, .int .i64 x.at_.x, .int .i64 x.at_.y, .int .i64 x.at_.z, .int .i64 x.turn, .int .i64 x.cell, .int .i64 x.size]).alloc _)
 have H4 := Lib.hid (show Arr W0 (w.heap.size + 1) 27 [.int .i64 0, .int .i64 0, .int .i64 0, .int .i64 0, .int .i64 0, .int .i64 0] by rw [hW]; have h := Arr.new (w.alloc (.cells #[.int .i64 x.st.tick, .int .i64 x.st.clock, .int .i64 x.st.site, .int .i64 x.st.seq, .int .i64 3, .int .i64 x.box.lo.x, .int .i64 x.box.lo.y, .int .i64 x.box.lo.z, .int .i64 x.box.hi.x, .int .i64 x.box.hi.y, .int .i64 x.box.hi.z, .int .i64 x.at_.x, .int .i64 x.at_.y, .int .i64 x.at_.z, .int .i64 x.turn, .int .i64 x.cell, .int .i64 x.size] 29)) 27 [.int .i64 0, .int .i64 0, .int .i64 0, .int .i64 0, .int .i64 0, .int .i64 0]; simp only [World.size_alloc_] at h; exact h)
 have HCC := refcube_any d hd
 unfold cubeD at HCC
 have hsh := shl_run d hd
 unfold cubeD
 obtain ⟨S, hS⟩ : ∃ S : Int, (2 : Int) ^ d.toNat = S := ⟨_, rfl⟩
 have hw6 : wrap64 ((2 : Int) ^ d.toNat) = (2 : Int) ^ d.toNat := pow_w d hd
 rw [hS] at hsh HCC ⊢
 rw (occs := .pos [2]) [hS] at hw6
 clear hS
 have HI := Lib.hid (show ∀ W : World, Calls Tryz.prog 62 #[.agg #[.int .i64 x.box.lo.x, .int .i64 x.box.lo.y, .int .i64 x.box.lo.z, .int .i64 x.box.hi.x, .int .i64 x.box.hi.y, .int .i64 x.box.hi.z], .agg #[.int .i64 (cubeB S).lo.x, .int .i64 (cubeB S).lo.y, .int .i64 (cubeB S).lo.z, .int .i64 (cubeB S).hi.x, .int .i64 (cubeB S).hi.y, .int .i64 (cubeB S).hi.z]] W fun e w' => e = .returned (.agg #[.int .i64 (interB x.box (cubeB S)).lo.x, .int .i64 (interB x.box (cubeB S)).lo.y, .int .i64 (interB x.box (cubeB S)).lo.z, .int .i64 (interB x.box (cubeB S)).hi.x, .int .i64 (interB x.box (cubeB S)).hi.y, .int .i64 (interB x.box (cubeB S)).hi.z]) ∧ Ext W w' from refIntersect_any x.box (cubeB S))
 generalize interB x.box (cubeB S) = rb at HI ⊢
 have HCU := Lib.hid (show ∀ W : World, Calls Tryz.prog 51 #[.int .i64 d] W fun e w' => e = .returned (.agg #[.int .i64 (cubeB S).lo.x, .int .i64 (cubeB S).lo.y, .int .i64 (cubeB S).lo.z, .int .i64 (cubeB S).hi.x, .int .i64 (cubeB S).hi.y, .int .i64 (cubeB S).hi.z]) ∧ Ext W w' from HCC)
 clear HCC
 go_enter Tryz.func16, Tryz.ntmps16
 go_upto_region 1 with fail
 rw [← hW]
 clear hW
 go_upto_region 2 with (first
  | (refine wpList_store_blk2 27 (.tmp 5) (.tmp 7) rfl rfl (Arr.new W0 27 [.int .i64 0, .int .i64 0, .int .i64 0, .int .i64 0, .int .i64 0, .int .i64 0]) [.int .i64 0, .int .i64 0, .int .i64 0, .int .i64 0, .int .i64 0, .int .i64 0] rfl rfl (by kernel_rfl) rfl rfl rfl ?_; intro W1 hW; have Q2_5 := aLt H2; have Q4_5 := aLt H4; have Qw_5 := Lib.hid HX.out.size; replace HX := xNew HX hW; replace H2 := aNew H2 hW; replace H4 := aNew H4 hW; have H5 := nNew hW; clear hW))
 obtain ⟨b5, hb5⟩ : ∃ n, n = W0.heap.size := ⟨_, rfl⟩
 rw [← hb5] at H5 Q2_5 Q4_5 Qw_5 ⊢
 clear hb5
 have c2 := H2.out.cell; have l2 := H2.out.lt
 go_upto_region 3 with fail
 clear c2 l2
 go_upto_region 4 with fail
 go_upto_region 5 with fail
 go_upto_region 13 with (first
  | (refine wpList_load_part 27 (.tmp 13) rfl rfl H2.out 5 [.int .i64 x.box.lo.x, .int .i64 x.box.lo.y, .int .i64 x.box.lo.z, .int .i64 x.box.hi.x, .int .i64 x.box.hi.y, .int .i64 x.box.hi.z] rfl rfl _ Tryz.underlying27 rfl (by kernel_rfl) ?_) | (refine wpList_load_part 27 (.tmp 13) rfl rfl (H2.out.alloc _) 5 [.int .i64 x.box.lo.x, .int .i64 x.box.lo.y, .int .i64 x.box.lo.z, .int .i64 x.box.hi.x, .int .i64 x.box.hi.y, .int .i64 x.box.hi.z] rfl rfl _ Tryz.underlying27 rfl (by kernel_rfl) ?_)
  | (refine wpList_store_blk2 27 (.tmp 5) (.tmp 14) rfl rfl H5.out [.int .i64 x.box.lo.x, .int .i64 x.box.lo.y, .int .i64 x.box.lo.z, .int .i64 x.box.hi.x, .int .i64 x.box.hi.y, .int .i64 x.box.hi.z] rfl rfl (by kernel_rfl) rfl rfl rfl ?_; intro W2 hW; replace HX := xRow HX hW (by have := Qw_5.out; omega); replace H2 := aRow H2 hW (by have := Q2_5.out; omega); replace H4 := aRow H4 hW (by have := Q4_5.out; omega); replace H5 := nRow H5 hW; clear hW))
 have HN0 := Lib.hid (fun W : World => HCU.out W)
 have HN1 := Lib.hid (fun W : World => HI.out W)
 have c5 := H5.out.cell; have l5 := H5.out.lt
 (try simp only [Act.put, List.setIfInBounds_toArray, List.set_cons_zero, List.set_cons_succ])
 refine wp_region_near_tail 4 (by assumption) (by kernel_rfl) ?_
 simp only [List.take_succ_cons, List.take_zero, List.drop_succ_cons, List.drop_zero]
 repeat (go_big_quiet_step ((first | (go_at_call 51; with_reducible exact near_call (HN0.out _)) | (go_at_call 62; with_reducible exact near_call (HN1.out _)))))
 refine wpQuiet_nil ?_
 intro w1 hw1
 have hy := Ext.of_near hw1
 clear hw1
 replace HX := xEx HX hy; replace H2 := aEx H2 hy; replace H4 := aEx H4 hy; replace H5 := aEx H5 hy
 clear hy c5 l5
 go_wp2_with (first
  | (refine wpList_store_blk2 27 (.tmp 4) (.tmp 51) rfl rfl H4.out [.int .i64 rb.lo.x, .int .i64 rb.lo.y, .int .i64 rb.lo.z, .int .i64 rb.hi.x, .int .i64 rb.hi.y, .int .i64 rb.hi.z] rfl rfl (by kernel_rfl) rfl rfl rfl ?_; intro W3 hW; replace HX := xRow HX hW (by omega); replace H2 := aRow H2 hW (by omega); replace H5 := aRow H5 hW (by have := Q4_5.out; omega); replace H4 := nRow H4 hW; clear hW))
 refine bodyPost_ret (v := .agg #[.int .i64 rb.lo.x, .int .i64 rb.lo.y, .int .i64 rb.lo.z, .int .i64 rb.hi.x, .int .i64 rb.hi.y, .int .i64 rb.hi.z]) ?_ rfl ⟨rfl, HX.out⟩
 exact results_cell_row Tryz.results16 _ _ _ _ _ _ _ rfl H4.out Tryz.underlying27 rfl (by kernel_rfl)
end Go.Proofs.YtlinhgannajfpaaGreatDoor

/- Bounds of an edit, kind by kind. -/
namespace Go.Proofs.YtlinhgannajfpaaGreatDoor
open Go Go.RowKit

set_option maxRecDepth 100000 in
set_option maxHeartbeats 8000000 in
theorem refBounds_4 (x : Ed) (d : Int) (hd : 2 ≤ d ∧ d ≤ 14) (hs : isT x.turn = true) (he : emptyB x.box = false) (hb : smlB x.box) (ha : smlP x.at_) (w : World) : Calls Tryz.prog 16 #[.agg #[.int .i64 x.st.tick, .int .i64 x.st.clock, .int .i64 x.st.site, .int .i64 x.st.seq, .int .i64 4, .int .i64 x.box.lo.x, .int .i64 x.box.lo.y, .int .i64 x.box.lo.z, .int .i64 x.box.hi.x, .int .i64 x.box.hi.y, .int .i64 x.box.hi.z, .int .i64 x.at_.x, .int .i64 x.at_.y, .int .i64 x.at_.z, .int .i64 x.turn, .int .i64 x.cell, .int .i64 x.size], .int .i64 d] w fun e w' => e = .returned (.agg #[.int .i64 (interB (targB x) (cubeD d)).lo.x, .int .i64 (interB (targB x) (cubeD d)).lo.y, .int .i64 (interB (targB x) (cubeD d)).lo.z, .int .i64 (interB (targB x) (cubeD d)).hi.x, .int .i64 (interB (targB x) (cubeD d)).hi.y, .int .i64 (interB (targB x) (cubeD d)).hi.z]) ∧ Ext w w' := by
 have hm := mixed
 have hG := near_old
 obtain ⟨W0, hW⟩ : ∃ W, W = (w.alloc (.cells #[.int .i64 x.st.tick, .int .i64 x.st.clock, .int .i64 x.st.site, .int .i64 x.st.seq, .int .i64 4, .int .i64 x.box.lo.x, .int .i64 x.box.lo.y, .int .i64 x.box.lo.z, .int .i64 x.box.hi.x, .int .i64 x.box.hi.y, .int .i64 x.box.hi.z, .int .i64 x.at_.x, .int .i64 x.at_.y, .int .i64 x.at_.z, .int .i64 x.turn, .int .i64 x.cell, .int .i64 x.size] 29)).alloc (.cells #[.int .i64 0, .int .i64 0, .int .i64 0, .int .i64 0, .int .i64 0, .int .i64 0] 27) := ⟨_, rfl⟩
 have HX := Lib.hid (show Ext w W0 by rw [hW]; exact ((Ext.refl w).alloc _).alloc _)
 have H2 := Lib.hid (show Arr W0 w.heap.size 29 [.int .i64 x.st.tick, .int .i64 x.st.clock, .int .i64 x.st.site, .int .i64 x.st.seq, .int .i64 4, .int .i64 x.box.lo.x, .int .i64 x.box.lo.y, .int .i64 x.box.lo.z, .int .i64 x.box.hi.x, .int .i64 x.box.hi.y, .int .i64 x.box.hi.z, .int .i64 x.at_.x, .int .i64 x.at_.y, .int .i64 x.at_.z, .int .i64 x.turn, .int .i64 x.cell, .int .i64 x.size] by rw [hW]; exact (Arr.new w 29 [.int .i64 x.st.tick, .int .i64 x.st.clock, .int .i64 x.st.site, .int .i64 x.st.seq, .int .i64 4, .int .i64 x.box.lo.x, .int .i64 x.box.lo.y, .int .i64 x.box.lo.z, .int .i64 x.box.hi.x, .int .i64 x.box.hi.y, .int .i64 x.box.hi.z, .int .i64 x.at_.x, .int .i64 x.at_.y, .int .i64 x.at_.z, .int .i64 x.turn, .int .i64 x.cell, .int .i64 x.size]).alloc _)
 have H4 := Lib.hid (show Arr W0 (w.heap.size + 1) 27 [.int .i64 0, .int .i64 0, .int .i64 0, .int .i64 0, .int .i64 0, .int .i64 0] by rw [hW]; have h := Arr.new (w.alloc (.cells #[.int .i64 x.st.tick, .int .i64 x.st.clock, .int .i64 x.st.site, .int .i64 x.st.seq, .int .i64 4, .int .i64 x.box.lo.x, .int .i64 x.box.lo.y, .int .i64 x.box.lo.z, .int .i64 x.box.hi.x, .int .i64 x.box.hi.y, .int .i64 x.box.hi.z, .int .i64 x.at_.x, .int .i64 x.at_.y, .int .i64 x.at_.z, .int .i64 x.turn, .int .i64 x.cell, .int .i64 x.size] 29)) 27 [.int .i64 0, .int .i64 0, .int .i64 0, .int .i64 0, .int .i64 0, .int .i64 0]; simp only [World.size_alloc_] at h; exact h)
 have HCC := refcube_any d hd
 unfold cubeD at HCC
 have hsh := shl_run d hd
 unfold cubeD
 obtain ⟨S, hS⟩ : ∃ S : Int, (2 : Int) ^ d.toNat = S := ⟨_, rfl⟩
 have hw6 : wrap64 ((2 : Int) ^ d.toNat) = (2 : Int) ^ d.toNat := pow_w d hd
 rw [hS] at hsh HCC ⊢
 rw (occs := .pos [2]) [hS] at hw6
 clear hS
 have HB := Lib.hid (show ∀ W : World, Calls Tryz.prog 61 #[.agg #[.int .i64 x.st.tick, .int .i64 x.st.clock, .int .i64 x.st.site, .int .i64 x.st.seq, .int .i64 4, .int .i64 x.box.lo.x, .int .i64 x.box.lo.y, .int .i64 x.box.lo.z, .int .i64 x.box.hi.x, .int .i64 x.box.hi.y, .int .i64 x.box.hi.z, .int .i64 x.at_.x, .int .i64 x.at_.y, .int .i64 x.at_.z, .int .i64 x.turn, .int .i64 x.cell, .int .i64 x.size]] W fun e w' => e = .returned (.agg #[.int .i64 (targB x).lo.x, .int .i64 (targB x).lo.y, .int .i64 (targB x).lo.z, .int .i64 (targB x).hi.x, .int .i64 (targB x).hi.y, .int .i64 (targB x).hi.z]) ∧ Ext W w' from refTarget_any (⟨x.st, 4, x.box, x.at_, x.turn, x.cell, x.size⟩ : Ed) hs he hb ha)
 generalize targB x = r1 at HB ⊢
 clear hs he hb ha
 have HI := Lib.hid (show ∀ W : World, Calls Tryz.prog 62 #[.agg #[.int .i64 r1.lo.x, .int .i64 r1.lo.y, .int .i64 r1.lo.z, .int .i64 r1.hi.x, .int .i64 r1.hi.y, .int .i64 r1.hi.z], .agg #[.int .i64 (cubeB S).lo.x, .int .i64 (cubeB S).lo.y, .int .i64 (cubeB S).lo.z, .int .i64 (cubeB S).hi.x, .int .i64 (cubeB S).hi.y, .int .i64 (cubeB S).hi.z]] W fun e w' => e = .returned (.agg #[.int .i64 (interB r1 (cubeB S)).lo.x, .int .i64 (interB r1 (cubeB S)).lo.y, .int .i64 (interB r1 (cubeB S)).lo.z, .int .i64 (interB r1 (cubeB S)).hi.x, .int .i64 (interB r1 (cubeB S)).hi.y, .int .i64 (interB r1 (cubeB S)).hi.z]) ∧ Ext W w' from refIntersect_any r1 (cubeB S))
 generalize interB r1 (cubeB S) = rb at HI ⊢
 have HCU := Lib.hid (show ∀ W : World, Calls Tryz.prog 51 #[.int .i64 d] W fun e w' => e = .returned (.agg #[.int .i64 (cubeB S).lo.x, .int .i64 (cubeB S).lo.y, .int .i64 (cubeB S).lo.z, .int .i64 (cubeB S).hi.x, .int .i64 (cubeB S).hi.y, .int .i64 (cubeB S).hi.z]) ∧ Ext W w' from HCC)
 clear HCC
 go_enter Tryz.func16, Tryz.ntmps16
 go_upto_region 1 with fail
 rw [← hW]
 clear hW
 go_upto_region 2 with (first
  | (refine wpList_store_blk2 27 (.tmp 5) (.tmp 7) rfl rfl (Arr.new W0 27 [.int .i64 0, .int .i64 0, .int .i64 0, .int .i64 0, .int .i64 0, .int .i64 0]) [.int .i64 0, .int .i64 0, .int .i64 0, .int .i64 0, .int .i64 0, .int .i64 0] rfl rfl (by kernel_rfl) rfl rfl rfl ?_; intro W1 hW; have Q2_5 := aLt H2; have Q4_5 := aLt H4; have Qw_5 := Lib.hid HX.out.size; replace HX := xNew HX hW; replace H2 := aNew H2 hW; replace H4 := aNew H4 hW; have H5 := nNew hW; clear hW))
 obtain ⟨b5, hb5⟩ : ∃ n, n = W0.heap.size := ⟨_, rfl⟩
 rw [← hb5] at H5 Q2_5 Q4_5 Qw_5 ⊢
 clear hb5
 have c2 := H2.out.cell; have l2 := H2.out.lt
 go_upto_region 3 with fail
 clear c2 l2
 go_upto_region 4 with fail
 go_upto_region 6 with fail
 go_upto_region 8 with fail
 go_upto_region 9 with fail
 go_upto_region 13 with (first
  | (refine ldB 29 2 H2.out Tryz.underlying29 ?_) | (refine ldB 29 2 (H2.out.alloc _) Tryz.underlying29 ?_) | (refine ldB 29 2 ((H2.out.alloc _).alloc _) Tryz.underlying29 ?_)
  | (go_at_call 61; refine (HB.out _).mono ?_; rintro e W2 ⟨rfl, hx⟩; replace HX := xEx HX hx; replace H2 := aEx H2 hx; replace H4 := aEx H4 hx; replace H5 := aEx H5 hx; clear hx)
  | (refine wpList_store_blk2 27 (.tmp 5) (.tmp 25) rfl rfl H5.out [.int .i64 r1.lo.x, .int .i64 r1.lo.y, .int .i64 r1.lo.z, .int .i64 r1.hi.x, .int .i64 r1.hi.y, .int .i64 r1.hi.z] rfl rfl (by kernel_rfl) rfl rfl rfl ?_; intro W3 hW; replace HX := xRow HX hW (by have := Qw_5.out; omega); replace H2 := aRow H2 hW (by have := Q2_5.out; omega); replace H4 := aRow H4 hW (by have := Q4_5.out; omega); replace H5 := nRow H5 hW; clear hW))
 have HN0 := Lib.hid (fun W : World => HCU.out W)
 have HN1 := Lib.hid (fun W : World => HI.out W)
 have c5 := H5.out.cell; have l5 := H5.out.lt
 (try simp only [Act.put, List.setIfInBounds_toArray, List.set_cons_zero, List.set_cons_succ])
 refine wp_region_near_tail 4 (by assumption) (by kernel_rfl) ?_
 simp only [List.take_succ_cons, List.take_zero, List.drop_succ_cons, List.drop_zero]
 repeat (go_big_quiet_step ((first | (go_at_call 51; with_reducible exact near_call (HN0.out _)) | (go_at_call 62; with_reducible exact near_call (HN1.out _)))))
 refine wpQuiet_nil ?_
 intro w1 hw1
 have hy := Ext.of_near hw1
 clear hw1
 replace HX := xEx HX hy; replace H2 := aEx H2 hy; replace H4 := aEx H4 hy; replace H5 := aEx H5 hy
 clear hy c5 l5
 go_wp2_with (first
  | (refine wpList_store_blk2 27 (.tmp 4) (.tmp 51) rfl rfl H4.out [.int .i64 rb.lo.x, .int .i64 rb.lo.y, .int .i64 rb.lo.z, .int .i64 rb.hi.x, .int .i64 rb.hi.y, .int .i64 rb.hi.z] rfl rfl (by kernel_rfl) rfl rfl rfl ?_; intro W4 hW; replace HX := xRow HX hW (by omega); replace H2 := aRow H2 hW (by omega); replace H5 := aRow H5 hW (by have := Q4_5.out; omega); replace H4 := nRow H4 hW; clear hW))
 refine bodyPost_ret (v := .agg #[.int .i64 rb.lo.x, .int .i64 rb.lo.y, .int .i64 rb.lo.z, .int .i64 rb.hi.x, .int .i64 rb.hi.y, .int .i64 rb.hi.z]) ?_ rfl ⟨rfl, HX.out⟩
 exact results_cell_row Tryz.results16 _ _ _ _ _ _ _ rfl H4.out Tryz.underlying27 rfl (by kernel_rfl)

set_option maxRecDepth 100000 in
set_option maxHeartbeats 8000000 in
theorem refBounds_5 (x : Ed) (d : Int) (hd : 2 ≤ d ∧ d ≤ 14) (hz : 1 ≤ x.size ∧ x.size ≤ 32768) (w : World) : Calls Tryz.prog 16 #[.agg #[.int .i64 x.st.tick, .int .i64 x.st.clock, .int .i64 x.st.site, .int .i64 x.st.seq, .int .i64 5, .int .i64 x.box.lo.x, .int .i64 x.box.lo.y, .int .i64 x.box.lo.z, .int .i64 x.box.hi.x, .int .i64 x.box.hi.y, .int .i64 x.box.hi.z, .int .i64 x.at_.x, .int .i64 x.at_.y, .int .i64 x.at_.z, .int .i64 x.turn, .int .i64 x.cell, .int .i64 x.size], .int .i64 d] w fun e w' => e = .returned (.agg #[.int .i64 (interB (⟨subP x.at_ ⟨x.size - 1, x.size - 1, x.size - 1⟩, addP x.at_ ⟨x.size, x.size, x.size⟩⟩ : Bx) (cubeD d)).lo.x, .int .i64 (interB (⟨subP x.at_ ⟨x.size - 1, x.size - 1, x.size - 1⟩, addP x.at_ ⟨x.size, x.size, x.size⟩⟩ : Bx) (cubeD d)).lo.y, .int .i64 (interB (⟨subP x.at_ ⟨x.size - 1, x.size - 1, x.size - 1⟩, addP x.at_ ⟨x.size, x.size, x.size⟩⟩ : Bx) (cubeD d)).lo.z, .int .i64 (interB (⟨subP x.at_ ⟨x.size - 1, x.size - 1, x.size - 1⟩, addP x.at_ ⟨x.size, x.size, x.size⟩⟩ : Bx) (cubeD d)).hi.x, .int .i64 (interB (⟨subP x.at_ ⟨x.size - 1, x.size - 1, x.size - 1⟩, addP x.at_ ⟨x.size, x.size, x.size⟩⟩ : Bx) (cubeD d)).hi.y, .int .i64 (interB (⟨subP x.at_ ⟨x.size - 1, x.size - 1, x.size - 1⟩, addP x.at_ ⟨x.size, x.size, x.size⟩⟩ : Bx) (cubeD d)).hi.z]) ∧ Ext w w' := by
 have hm := mixed
 have hG := near_old
 obtain ⟨W0, hW⟩ : ∃ W, W = (w.alloc (.cells #[.int .i64 x.st.tick, .int .i64 x.st.clock, .int .i64 x.st.site, .int .i64 x.st.seq, .int .i64 5, .int .i64 x.box.lo.x, .int .i64 x.box.lo.y, .int .i64 x.box.lo.z, .int .i64 x.box.hi.x, .int .i64 x.box.hi.y, .int .i64 x.box.hi.z, .int .i64 x.at_.x, .int .i64 x.at_.y, .int .i64 x.at_.z, .int .i64 x.turn, .int .i64 x.cell, .int .i64 x.size] 29)).alloc (.cells #[.int .i64 0, .int .i64 0, .int .i64 0, .int .i64 0, .int .i64 0, .int .i64 0] 27) := ⟨_, rfl⟩
 have HX := Lib.hid (show Ext w W0 by rw [hW]; exact ((Ext.refl w).alloc _).alloc _)
 have H2 := Lib.hid (show Arr W0 w.heap.size 29 [.int .i64 x.st.tick, .int .i64 x.st.clock, .int .i64 x.st.site, .int .i64 x.st.seq, .int .i64 5, .int .i64 x.box.lo.x, .int .i64 x.box.lo.y, .int .i64 x.box.lo.z, .int .i64 x.box.hi.x, .int .i64 x.box.hi.y, .int .i64 x.box.hi.z, .int .i64 x.at_.x, .int .i64 x.at_.y, .int .i64 x.at_.z, .int .i64 x.turn, .int .i64 x.cell, .int .i64 x.size] by rw [hW]; exact (Arr.new w 29 [.int .i64 x.st.tick, .int .i64 x.st.clock, .int .i64 x.st.site, .int .i64 x.st.seq, .int .i64 5, .int .i64 x.box.lo.x, .int .i64 x.box.lo.y, .int .i64 x.box.lo.z, .int .i64 x.box.hi.x, .int .i64 x.box.hi.y, .int .i64 x.box.hi.z, .int .i64 x.at_.x, .int .i64 x.at_.y, .int .i64 x.at_.z, .int .i64 x.turn, .int .i64 x.cell, .int .i64 x.size]).alloc _)
 have H4 := Lib.hid (show Arr W0 (w.heap.size + 1) 27 [.int .i64 0, .int .i64 0, .int .i64 0, .int .i64 0, .int .i64 0, .int .i64 0] by rw [hW]; have h := Arr.new (w.alloc (.cells #[.int .i64 x.st.tick, .int .i64 x.st.clock, .int .i64 x.st.site, .int .i64 x.st.seq, .int .i64 5, .int .i64 x.box.lo.x, .int .i64 x.box.lo.y, .int .i64 x.box.lo.z, .int .i64 x.box.hi.x, .int .i64 x.box.hi.y, .int .i64 x.box.hi.z, .int .i64 x.at_.x, .int .i64 x.at_.y, .int .i64 x.at_.z, .int .i64 x.turn, .int .i64 x.cell, .int .i64 x.size] 29)) 27 [.int .i64 0, .int .i64 0, .int .i64 0, .int .i64 0, .int .i64 0, .int .i64 0]; simp only [World.size_alloc_] at h; exact h)
 have HCC := refcube_any d hd
 unfold cubeD at HCC
 have hsh := shl_run d hd
 unfold cubeD
 obtain ⟨S, hS⟩ : ∃ S : Int, (2 : Int) ^ d.toNat = S := ⟨_, rfl⟩
 have hw6 : wrap64 ((2 : Int) ^ d.toNat) = (2 : Int) ^ d.toNat := pow_w d hd
 rw [hS] at hsh HCC ⊢
 rw (occs := .pos [2]) [hS] at hw6
 clear hS
 have HS := Lib.hid (show ∀ W : World, Calls Tryz.prog 37 #[.agg #[.int .i64 x.at_.x, .int .i64 x.at_.y, .int .i64 x.at_.z], .agg #[.int .i64 (x.size - 1), .int .i64 (x.size - 1), .int .i64 (x.size - 1)]] W fun e w' => e = .returned (.agg #[.int .i64 (subP x.at_ ⟨x.size - 1, x.size - 1, x.size - 1⟩).x, .int .i64 (subP x.at_ ⟨x.size - 1, x.size - 1, x.size - 1⟩).y, .int .i64 (subP x.at_ ⟨x.size - 1, x.size - 1, x.size - 1⟩).z]) ∧ Ext W w' from refSub_any x.at_ ⟨x.size - 1, x.size - 1, x.size - 1⟩)
 have HA := Lib.hid (show ∀ W : World, Calls Tryz.prog 36 #[.agg #[.int .i64 x.at_.x, .int .i64 x.at_.y, .int .i64 x.at_.z], .agg #[.int .i64 x.size, .int .i64 x.size, .int .i64 x.size]] W fun e w' => e = .returned (.agg #[.int .i64 (addP x.at_ ⟨x.size, x.size, x.size⟩).x, .int .i64 (addP x.at_ ⟨x.size, x.size, x.size⟩).y, .int .i64 (addP x.at_ ⟨x.size, x.size, x.size⟩).z]) ∧ Ext W w' from rAdd_any x.at_ ⟨x.size, x.size, x.size⟩)
 generalize subP x.at_ ⟨x.size - 1, x.size - 1, x.size - 1⟩ = q1 at HS ⊢
 generalize addP x.at_ ⟨x.size, x.size, x.size⟩ = q2 at HA ⊢
 have HI := Lib.hid (show ∀ W : World, Calls Tryz.prog 62 #[.agg #[.int .i64 q1.x, .int .i64 q1.y, .int .i64 q1.z, .int .i64 q2.x, .int .i64 q2.y, .int .i64 q2.z], .agg #[.int .i64 (cubeB S).lo.x, .int .i64 (cubeB S).lo.y, .int .i64 (cubeB S).lo.z, .int .i64 (cubeB S).hi.x, .int .i64 (cubeB S).hi.y, .int .i64 (cubeB S).hi.z]] W fun e w' => e = .returned (.agg #[.int .i64 (interB (⟨q1, q2⟩ : Bx) (cubeB S)).lo.x, .int .i64 (interB (⟨q1, q2⟩ : Bx) (cubeB S)).lo.y, .int .i64 (interB (⟨q1, q2⟩ : Bx) (cubeB S)).lo.z, .int .i64 (interB (⟨q1, q2⟩ : Bx) (cubeB S)).hi.x, .int .i64 (interB (⟨q1, q2⟩ : Bx) (cubeB S)).hi.y, .int .i64 (interB (⟨q1, q2⟩ : Bx) (cubeB S)).hi.z]) ∧ Ext W w' from refIntersect_any (⟨q1, q2⟩ : Bx) (cubeB S))
 generalize interB (⟨q1, q2⟩ : Bx) (cubeB S) = rb at HI ⊢
 have HCU := Lib.hid (show ∀ W : World, Calls Tryz.prog 51 #[.int .i64 d] W fun e w' => e = .returned (.agg #[.int .i64 (cubeB S).lo.x, .int .i64 (cubeB S).lo.y, .int .i64 (cubeB S).lo.z, .int .i64 (cubeB S).hi.x, .int .i64 (cubeB S).hi.y, .int .i64 (cubeB S).hi.z]) ∧ Ext W w' from HCC)
 clear HCC
 go_enter Tryz.func16, Tryz.ntmps16
 go_upto_region 1 with fail
 rw [← hW]
 clear hW
 go_upto_region 2 with (first
  | (refine wpList_store_blk2 27 (.tmp 5) (.tmp 7) rfl rfl (Arr.new W0 27 [.int .i64 0, .int .i64 0, .int .i64 0, .int .i64 0, .int .i64 0, .int .i64 0]) [.int .i64 0, .int .i64 0, .int .i64 0, .int .i64 0, .int .i64 0, .int .i64 0] rfl rfl (by kernel_rfl) rfl rfl rfl ?_; intro W1 hW; have Q2_5 := aLt H2; have Q4_5 := aLt H4; have Qw_5 := Lib.hid HX.out.size; replace HX := xNew HX hW; replace H2 := aNew H2 hW; replace H4 := aNew H4 hW; have H5 := nNew hW; clear hW))
 obtain ⟨b5, hb5⟩ : ∃ n, n = W0.heap.size := ⟨_, rfl⟩
 rw [← hb5] at H5 Q2_5 Q4_5 Qw_5 ⊢
 clear hb5
 have c2 := H2.out.cell; have l2 := H2.out.lt
 go_upto_region 3 with fail
 clear c2 l2
 go_upto_region 4 with fail
 go_upto_region 6 with fail
 go_upto_region 8 with fail
 go_upto_region 10 with fail
 go_upto_region 11 with fail
 have c2 := H2.out.cell; have l2 := H2.out.lt
 go_upto_region 12 with fail
 clear c2 l2
 have HN0 := Lib.hid (fun W : World => HS.out W)
 have HN1 := Lib.hid (fun W : World => HA.out W)
 have c2 := H2.out.cell; have l2 := H2.out.lt
 (try simp only [Act.put, List.setIfInBounds_toArray, List.set_cons_zero, List.set_cons_succ])
 refine wp_region_near_tail 18 (by assumption) (by kernel_rfl) ?_
 simp only [List.take_succ_cons, List.take_zero, List.drop_succ_cons, List.drop_zero]
 repeat (go_big_quiet_step ((first | (go_at_call 37; with_reducible exact near_call (HN0.out _)) | (go_at_call 36; with_reducible exact near_call (HN1.out _)))))
 refine wpQuiet_nil ?_
 intro w1 hw1
 have hy := Ext.of_near hw1
 clear hw1
 replace HX := xEx HX hy; replace H2 := aEx H2 hy; replace H4 := aEx H4 hy; replace H5 := aEx H5 hy
 clear hy c2 l2
 go_upto_region 13 with (first
  | (refine wpList_store_blk2 27 (.tmp 5) (.tmp 47) rfl rfl H5.out [.int .i64 q1.x, .int .i64 q1.y, .int .i64 q1.z, .int .i64 q2.x, .int .i64 q2.y, .int .i64 q2.z] rfl rfl (by kernel_rfl) rfl rfl rfl ?_; intro W2 hW; replace HX := xRow HX hW (by have := Qw_5.out; omega); replace H2 := aRow H2 hW (by have := Q2_5.out; omega); replace H4 := aRow H4 hW (by have := Q4_5.out; omega); replace H5 := nRow H5 hW; clear hW))
 have HN0 := Lib.hid (fun W : World => HCU.out W)
 have HN1 := Lib.hid (fun W : World => HI.out W)
 have c5 := H5.out.cell; have l5 := H5.out.lt
 (try simp only [Act.put, List.setIfInBounds_toArray, List.set_cons_zero, List.set_cons_succ])
 refine wp_region_near_tail 4 (by assumption) (by kernel_rfl) ?_
 simp only [List.take_succ_cons, List.take_zero, List.drop_succ_cons, List.drop_zero]
 repeat (go_big_quiet_step ((first | (go_at_call 51; with_reducible exact near_call (HN0.out _)) | (go_at_call 62; with_reducible exact near_call (HN1.out _)))))
 refine wpQuiet_nil ?_
 intro w1 hw1
 have hy := Ext.of_near hw1
 clear hw1
 replace HX := xEx HX hy; replace H2 := aEx H2 hy; replace H4 := aEx H4 hy; replace H5 := aEx H5 hy
 clear hy c5 l5
 go_wp2_with (first
  | (refine wpList_store_blk2 27 (.tmp 4) (.tmp 51) rfl rfl H4.out [.int .i64 rb.lo.x, .int .i64 rb.lo.y, .int .i64 rb.lo.z, .int .i64 rb.hi.x, .int .i64 rb.hi.y, .int .i64 rb.hi.z] rfl rfl (by kernel_rfl) rfl rfl rfl ?_; intro W3 hW; replace HX := xRow HX hW (by omega); replace H2 := aRow H2 hW (by omega); replace H5 := aRow H5 hW (by have := Q4_5.out; omega); replace H4 := nRow H4 hW; clear hW))
 refine bodyPost_ret (v := .agg #[.int .i64 rb.lo.x, .int .i64 rb.lo.y, .int .i64 rb.lo.z, .int .i64 rb.hi.x, .int .i64 rb.hi.y, .int .i64 rb.hi.z]) ?_ rfl ⟨rfl, HX.out⟩
 exact results_cell_row Tryz.results16 _ _ _ _ _ _ _ rfl H4.out Tryz.underlying27 rfl (by kernel_rfl)
end Go.Proofs.YtlinhgannajfpaaGreatDoor

/- Bounds of an edit, kind by kind. -/
namespace Go.Proofs.YtlinhgannajfpaaGreatDoor
open Go Go.RowKit

set_option maxRecDepth 100000 in
set_option maxHeartbeats 8000000 in
theorem refBounds_n (x : Ed) (n d : Int) (hd : 2 ≤ d ∧ d ≤ 14) (hn : ¬ n = 1 ∧ ¬ n = 2 ∧ ¬ n = 3 ∧ ¬ n = 4 ∧ ¬ n = 5) (w : World) : Calls Tryz.prog 16 #[.agg #[.int .i64 x.st.tick, .int .i64 x.st.clock, .int .i64 x.st.site, .int .i64 x.st.seq, .int .i64 n, .int .i64 x.box.lo.x, .int .i64 x.box.lo.y, .int .i64 x.box.lo.z, .int .i64 x.box.hi.x, .int .i64 x.box.hi.y, .int .i64 x.box.hi.z, .int .i64 x.at_.x, .int .i64 x.at_.y, .int .i64 x.at_.z, .int .i64 x.turn, .int .i64 x.cell, .int .i64 x.size], .int .i64 d] w fun e w' => e = .returned (.agg #[.int .i64 (interB zeroBx (cubeD d)).lo.x, .int .i64 (interB zeroBx (cubeD d)).lo.y, .int .i64 (interB zeroBx (cubeD d)).lo.z, .int .i64 (interB zeroBx (cubeD d)).hi.x, .int .i64 (interB zeroBx (cubeD d)).hi.y, .int .i64 (interB zeroBx (cubeD d)).hi.z]) ∧ Ext w w' := by
 have hm := mixed
 have hG := near_old
 obtain ⟨W0, hW⟩ : ∃ W, W = (w.alloc (.cells #[.int .i64 x.st.tick, .int .i64 x.st.clock, .int .i64 x.st.site, .int .i64 x.st.seq, .int .i64 n, .int .i64 x.box.lo.x, .int .i64 x.box.lo.y, .int .i64 x.box.lo.z, .int .i64 x.box.hi.x, .int .i64 x.box.hi.y, .int .i64 x.box.hi.z, .int .i64 x.at_.x, .int .i64 x.at_.y, .int .i64 x.at_.z, .int .i64 x.turn, .int .i64 x.cell, .int .i64 x.size] 29)).alloc (.cells #[.int .i64 0, .int .i64 0, .int .i64 0, .int .i64 0, .int .i64 0, .int .i64 0] 27) := ⟨_, rfl⟩
 have HX := Lib.hid (show Ext w W0 by rw [hW]; exact ((Ext.refl w).alloc _).alloc _)
 have H2 := Lib.hid (show Arr W0 w.heap.size 29 [.int .i64 x.st.tick, .int .i64 x.st.clock, .int .i64 x.st.site, .int .i64 x.st.seq, .int .i64 n, .int .i64 x.box.lo.x, .int .i64 x.box.lo.y, .int .i64 x.box.lo.z, .int .i64 x.box.hi.x, .int .i64 x.box.hi.y, .int .i64 x.box.hi.z, .int .i64 x.at_.x, .int .i64 x.at_.y, .int .i64 x.at_.z, .int .i64 x.turn, .int .i64 x.cell, .int .i64 x.size] by rw [hW]; exact (Arr.new w 29 [.int .i64 x.st.tick, .int .i64 x.st.clock, .int .i64 x.st.site, .int .i64 x.st.seq, .int .i64 n, .int .i64 x.box.lo.x, .int .i64 x.box.lo.y, .int .i64 x.box.lo.z, .int .i64 x.box.hi.x, .int .i64 x.box.hi.y, .int .i64 x.box.hi.z, .int .i64 x.at_.x, .int .i64 x.at_.y, .int .i64 x.at_.z, .int .i64 x.turn, .int .i64 x.cell, .int .i64 x.size]).alloc _)
 have H4 := Lib.hid (show Arr W0 (w.heap.size + 1) 27 [.int .i64 0, .int .i64 0, .int .i64 0, .int .i64 0, .int .i64 0, .int .i64 0] by rw [hW]; have h := Arr.new (w.alloc (.cells #[.int .i64 x.st.tick, .int .i64 x.st.clock, .int .i64 x.st.site, .int .i64 x.st.seq, .int .i64 n, .int .i64 x.box.lo.x, .int .i64 x.box.lo.y, .int .i64 x.box.lo.z, .int .i64 x.box.hi.x, .int .i64 x.box.hi.y, .int .i64 x.box.hi.z, .int .i64 x.at_.x, .int .i64 x.at_.y, .int .i64 x.at_.z, .int .i64 x.turn, .int .i64 x.cell, .int .i64 x.size] 29)) 27 [.int .i64 0, .int .i64 0, .int .i64 0, .int .i64 0, .int .i64 0, .int .i64 0]; simp only [World.size_alloc_] at h; exact h)
 obtain ⟨n1, n2, n3, n4, n5⟩ := hn
 have HCC := refcube_any d hd
 unfold cubeD at HCC
 have hsh := shl_run d hd
 unfold cubeD
 obtain ⟨S, hS⟩ : ∃ S : Int, (2 : Int) ^ d.toNat = S := ⟨_, rfl⟩
 have hw6 : wrap64 ((2 : Int) ^ d.toNat) = (2 : Int) ^ d.toNat := pow_w d hd
 rw [hS] at hsh HCC ⊢
 rw (occs := .pos [2]) [hS] at hw6
 clear hS
 have HI := Lib.hid (show ∀ W : World, Calls Tryz.prog 62 #[.agg #[.int .i64 0, .int .i64 0, .int .i64 0, .int .i64 0, .int .i64 0, .int .i64 0], .agg #[.int .i64 (cubeB S).lo.x, .int .i64 (cubeB S).lo.y, .int .i64 (cubeB S).lo.z, .int .i64 (cubeB S).hi.x, .int .i64 (cubeB S).hi.y, .int .i64 (cubeB S).hi.z]] W fun e w' => e = .returned (.agg #[.int .i64 (interB zeroBx (cubeB S)).lo.x, .int .i64 (interB zeroBx (cubeB S)).lo.y, .int .i64 (interB zeroBx (cubeB S)).lo.z, .int .i64 (interB zeroBx (cubeB S)).hi.x, .int .i64 (interB zeroBx (cubeB S)).hi.y, .int .i64 (interB zeroBx (cubeB S)).hi.z]) ∧ Ext W w' from refIntersect_any zeroBx (cubeB S))
 generalize interB zeroBx (cubeB S) = rb at HI ⊢
 have HCU := Lib.hid (show ∀ W : World, Calls Tryz.prog 51 #[.int .i64 d] W fun e w' => e = .returned (.agg #[.int .i64 (cubeB S).lo.x, .int .i64 (cubeB S).lo.y, .int .i64 (cubeB S).lo.z, .int .i64 (cubeB S).hi.x, .int .i64 (cubeB S).hi.y, .int .i64 (cubeB S).hi.z]) ∧ Ext W w' from HCC)
 clear HCC
 go_enter Tryz.func16, Tryz.ntmps16
 go_upto_region 1 with fail
 rw [← hW]
 clear hW
 go_upto_region 2 with (first
  | (refine wpList_store_blk2 27 (.tmp 5) (.tmp 7) rfl rfl (Arr.new W0 27 [.int .i64 0, .int .i64 0, .int .i64 0, .int .i64 0, .int .i64 0, .int .i64 0]) [.int .i64 0, .int .i64 0, .int .i64 0, .int .i64 0, .int .i64 0, .int .i64 0] rfl rfl (by kernel_rfl) rfl rfl rfl ?_; intro W1 hW; have Q2_5 := aLt H2; have Q4_5 := aLt H4; have Qw_5 := Lib.hid HX.out.size; replace HX := xNew HX hW; replace H2 := aNew H2 hW; replace H4 := aNew H4 hW; have H5 := nNew hW; clear hW))
 obtain ⟨b5, hb5⟩ : ∃ n, n = W0.heap.size := ⟨_, rfl⟩
 rw [← hb5] at H5 Q2_5 Q4_5 Qw_5 ⊢
 clear hb5
 have c2 := H2.out.cell; have l2 := H2.out.lt
 go_upto_region 3 with fail
 clear c2 l2
 go_upto_region 4 with fail
 go_upto_region 6 with fail
 go_upto_region 8 with fail
 go_upto_region 10 with fail
 go_upto_region 13 with fail
 have HN0 := Lib.hid (fun W : World => HCU.out W)
 have HN1 := Lib.hid (fun W : World => HI.out W)
 have c5 := H5.out.cell; have l5 := H5.out.lt
 (try simp only [Act.put, List.setIfInBounds_toArray, List.set_cons_zero, List.set_cons_succ])
 refine wp_region_near_tail 4 (by assumption) (by kernel_rfl) ?_
 simp only [List.take_succ_cons, List.take_zero, List.drop_succ_cons, List.drop_zero]
 repeat (go_big_quiet_step ((first | (go_at_call 51; with_reducible exact near_call (HN0.out _)) | (go_at_call 62; with_reducible exact near_call (HN1.out _)))))
 refine wpQuiet_nil ?_
 intro w1 hw1
 have hy := Ext.of_near hw1
 clear hw1
 replace HX := xEx HX hy; replace H2 := aEx H2 hy; replace H4 := aEx H4 hy; replace H5 := aEx H5 hy
 clear hy c5 l5
 go_wp2_with (first
  | (refine wpList_store_blk2 27 (.tmp 4) (.tmp 51) rfl rfl H4.out [.int .i64 rb.lo.x, .int .i64 rb.lo.y, .int .i64 rb.lo.z, .int .i64 rb.hi.x, .int .i64 rb.hi.y, .int .i64 rb.hi.z] rfl rfl (by kernel_rfl) rfl rfl rfl ?_; intro W2 hW; replace HX := xRow HX hW (by omega); replace H2 := aRow H2 hW (by omega); replace H5 := aRow H5 hW (by have := Q4_5.out; omega); replace H4 := nRow H4 hW; clear hW))
 refine bodyPost_ret (v := .agg #[.int .i64 rb.lo.x, .int .i64 rb.lo.y, .int .i64 rb.lo.z, .int .i64 rb.hi.x, .int .i64 rb.hi.y, .int .i64 rb.hi.z]) ?_ rfl ⟨rfl, HX.out⟩
 exact results_cell_row Tryz.results16 _ _ _ _ _ _ _ rfl H4.out Tryz.underlying27 rfl (by kernel_rfl)
end Go.Proofs.YtlinhgannajfpaaGreatDoor

/- What Check gives of an edit; Bounds of any edit that Check accepts, on both sides. -/
namespace Go.Proofs.YtlinhgannajfpaaGreatDoor
open Go Go.RowKit

theorem pow_le14 (d : Int) (h : 2 ≤ d ∧ d ≤ 14) : (4 : Int) ≤ 2 ^ d.toNat ∧ (2 : Int) ^ d.toNat ≤ 16384 := by
 rcases (show d = 2 ∨ d = 3 ∨ d = 4 ∨ d = 5 ∨ d = 6 ∨ d = 7 ∨ d = 8 ∨ d = 9 ∨ d = 10 ∨ d = 11 ∨ d = 12 ∨ d = 13 ∨ d = 14 by omega) with h | h | h | h | h | h | h | h | h | h | h | h | h <;> subst h <;> decide
structure ChkOk (x : Ed) (d m : Int) : Prop where
 hd : 2 ≤ d ∧ d ≤ 14
 hm : 1 ≤ m ∧ m ≤ 256
 formed : formedE x = true
 kind : 1 ≤ x.kind ∧ x.kind ≤ 8
 box : usesF x.kind 1 = true → BoxOk x.box (2 ^ d.toNat)
 at_ : usesF x.kind 2 = true → inP x.at_ (cubeB (2 ^ d.toNat)) = true
 turn : isT x.turn = true
 cell : 0 ≤ x.cell ∧ x.cell ≤ m - 1
 size : leastE x ≤ x.size ∧ x.size ≤ mostE x
theorem chk_ok {x : Ed} {d m : Int} (hft : fits x) (h : checkE x d m = 0) : ChkOk x d m := by
 have hf := chk_formed h
 unfold checkE at h
 split at h
 · rename_i hd
   split at h
   · rename_i hm
     split at h
     · cases h
     · rename_i hb
       rw [decide_eq_true_eq] at hd
       rw [Bool.and_eq_true, decide_eq_true_eq] at hm
       rw [Bool.not_eq_true, badE_def] at hb
       simp only [Bool.or_eq_false_iff, Bool.and_eq_false_iff, Bool.not_eq_false', decide_eq_true_eq] at hb
       have hk : 1 ≤ x.kind ∧ x.kind ≤ 8 := by
        have h1 := hf
        rw [formedE_def] at h1
        simp only [Bool.and_eq_true, decide_eq_true_eq] at h1
        omega
       refine ⟨hd, hm.1, hf, hk, fun hu => ?_, fun hu => ?_, ?_, ?_, hb.2.2.2.2⟩
       · rcases hb.1 with h1 | ⟨h1, h2, h3⟩
         · rw [hu] at h1; cases h1
         · have hw := pow_le14 d hd
           generalize (2 : Int) ^ d.toNat = S at h2 h3 hw
           have h4 := notEmpty h1
           unfold inP cubeB at h2 h3
           unfold lastP addP scaleP at h3
           unfold wrap64 at h3
           simp only [Bool.and_eq_true, decide_eq_true_eq] at h2 h3
           unfold fits at hft
           refine ⟨by omega, by omega, ?_⟩
           omega
       · rcases hb.2.1 with h1 | h1
         · rw [hu] at h1; cases h1
         · exact h1
       · unfold isT
         rw [decide_eq_true_eq]
         omega
       · omega
   · cases h
 · cases h
theorem inCube_sml {p : Pt} {d : Int} (hd : 2 ≤ d ∧ d ≤ 14) (h : inP p (cubeB (2 ^ d.toNat)) = true) : smlP p := by
 have hw := pow_le14 d hd
 generalize (2 : Int) ^ d.toNat = S at h hw
 unfold inP cubeB at h
 simp only [Bool.and_eq_true, decide_eq_true_eq] at h
 unfold smlP
 omega
theorem ChkOk.fill {x : Ed} {d m : Int} (h : ChkOk x d m) (hk : x.kind = 5) : 1 ≤ x.size ∧ x.size ≤ 32768 := by
 have h1 := h.size
 unfold leastE mostE at h1
 rw [hk] at h1
 exact h1
set_option maxRecDepth 100000 in
theorem Bounds_any (x : Ed) (d : Int) (h : ChkOk x d 256) (w : World) (hA : AxesIn w) : Calls Tryz.prog 15 #[.agg #[.int .i64 x.st.tick, .int .i64 x.st.clock, .int .i64 x.st.site, .int .i64 x.st.seq, .int .i64 x.kind, .int .i64 x.box.lo.x, .int .i64 x.box.lo.y, .int .i64 x.box.lo.z, .int .i64 x.box.hi.x, .int .i64 x.box.hi.y, .int .i64 x.box.hi.z, .int .i64 x.at_.x, .int .i64 x.at_.y, .int .i64 x.at_.z, .int .i64 x.turn, .int .i64 x.cell, .int .i64 x.size], .int .i64 d] w fun e w' => e = .returned (.agg #[.int .i64 (boundsE x d).lo.x, .int .i64 (boundsE x d).lo.y, .int .i64 (boundsE x d).lo.z, .int .i64 (boundsE x d).hi.x, .int .i64 (boundsE x d).hi.y, .int .i64 (boundsE x d).hi.z]) ∧ Ext w w' := by
 have hd := h.hd
 have hk := h.kind
 obtain ⟨k, hkk⟩ : ∃ k, x.kind = k := ⟨_, rfl⟩
 rw [hkk] at hk
 have hpw := pow_le14 d hd
 rcases (show k = 1 ∨ k = 2 ∨ k = 3 ∨ k = 4 ∨ k = 5 ∨ k = 6 ∨ k = 7 ∨ k = 8 by omega) with e | e | e | e | e | e | e | e <;> subst e <;> unfold boundsE rawB <;> rw [hkk]
 · exact pBounds_1 x d hd w
 · exact pBounds_2 x d hd w
 · exact pBounds_3 x d hd w
 · have hb := h.box (by rw [hkk]; rfl)
   exact pBounds_4 x d hd h.turn hb.empty (hb.sml hpw.2) w hA
 · exact pBounds_5 x d hd (h.fill hkk) w
 · exact pBounds_n x 6 d hd (by decide) w
 · exact pBounds_n x 7 d hd (by decide) w
 · exact pBounds_n x 8 d hd (by decide) w
set_option maxRecDepth 100000 in
theorem refBounds_any (x : Ed) (d : Int) (h : ChkOk x d 256) (w : World) : Calls Tryz.prog 16 #[.agg #[.int .i64 x.st.tick, .int .i64 x.st.clock, .int .i64 x.st.site, .int .i64 x.st.seq, .int .i64 x.kind, .int .i64 x.box.lo.x, .int .i64 x.box.lo.y, .int .i64 x.box.lo.z, .int .i64 x.box.hi.x, .int .i64 x.box.hi.y, .int .i64 x.box.hi.z, .int .i64 x.at_.x, .int .i64 x.at_.y, .int .i64 x.at_.z, .int .i64 x.turn, .int .i64 x.cell, .int .i64 x.size], .int .i64 d] w fun e w' => e = .returned (.agg #[.int .i64 (boundsE x d).lo.x, .int .i64 (boundsE x d).lo.y, .int .i64 (boundsE x d).lo.z, .int .i64 (boundsE x d).hi.x, .int .i64 (boundsE x d).hi.y, .int .i64 (boundsE x d).hi.z]) ∧ Ext w w' := by
 have hd := h.hd
 have hk := h.kind
 obtain ⟨k, hkk⟩ : ∃ k, x.kind = k := ⟨_, rfl⟩
 rw [hkk] at hk
 have hpw := pow_le14 d hd
 rcases (show k = 1 ∨ k = 2 ∨ k = 3 ∨ k = 4 ∨ k = 5 ∨ k = 6 ∨ k = 7 ∨ k = 8 by omega) with e | e | e | e | e | e | e | e <;> subst e <;> unfold boundsE rawB <;> rw [hkk]
 · exact refBounds_1 x d hd w
 · exact refBounds_2 x d hd w
 · exact refBounds_3 x d hd w
 · have hb := h.box (by rw [hkk]; rfl)
   exact refBounds_4 x d hd h.turn hb.empty (hb.sml hpw.2) (inCube_sml hd (h.at_ (by rw [hkk]; rfl))) w
 · exact refBounds_5 x d hd (h.fill hkk) w
 · exact refBounds_n x 6 d hd (by decide) w
 · exact refBounds_n x 7 d hd (by decide) w
 · exact refBounds_n x 8 d hd (by decide) w
end Go.Proofs.YtlinhgannajfpaaGreatDoor
