/- YtlinhgannajfpaaGreatDoorKb · YtlinhgannajfpaaGreatDoorAu · YtlinhgannajfpaaGreatDoorKa · YtlinhgannajfpaaGreatDoorK8 · YtlinhgannajfpaaGreatDoorK9 · YtlinhgannajfpaaGreatDoorKc · YtlinhgannajfpaaGreatDoorPi · YtlinhgannajfpaaGreatDoorKd · YtlinhgannajfpaaGreatDoorEq · YtlinhgannajfpaaGreatDoorZe · YtlinhgannajfpaaGreatDoorZeP -/
import Derived.Test.YtlinhgannajfpaaGreatDoorTie
import Derived.Test.YtlinhgannajfpaaGreatDoorCards
import Derived.LaidLaws
import Derived.SevenTiedAt
import Derived.Test.YtlinhgannajfpaaGreatDoorZa11
/- The reference's InBall and Contains. -/
namespace Go.Proofs.YtlinhgannajfpaaGreatDoor
open Go Go.RowKit

def ballQ (a : Pt) (n : Int) (p : Pt) : Bool := isS n && decide (4 * ((subP p a).x * (subP p a).x + (subP p a).y * (subP p a).y + (subP p a).z * (subP p a).z) ≤ n * n)
theorem sq_rng {a : Int} (h : -40000 ≤ a ∧ a ≤ 40000) : 0 ≤ a * a ∧ a * a ≤ 1600000000 := by
 have h1 : 0 ≤ a * a := by
  rcases Int.le_total 0 a with h2 | h2
  · exact Int.mul_nonneg h2 h2
  · exact Int.mul_nonneg_of_nonpos_of_nonpos h2 h2
 refine ⟨h1, ?_⟩
 rcases Int.le_total 0 a with h2 | h2
 · have h3 := Int.mul_le_mul h.2 h.2 h2 (by decide)
   omega
 · have h3 : -a * -a ≤ 40000 * 40000 := Int.mul_le_mul (by omega) (by omega) (by omega) (by omega)
   rw [Int.neg_mul_neg] at h3
   omega
theorem sq_le {a n : Int} (hn : 0 ≤ n) (h : 4 * (a * a) ≤ n * n) : -(n / 2) ≤ a ∧ a ≤ n / 2 := by
 have key : ∀ b : Int, 0 ≤ b → 4 * (b * b) ≤ n * n → b ≤ n / 2 := by
  intro b hb h1
  refine Decidable.byContradiction fun h2 => ?_
  have h3 : n + 1 ≤ 2 * b := by omega
  have h4 := Int.mul_le_mul h3 h3 (by omega) (by omega)
  have e1 : 2 * b * (2 * b) = 4 * (b * b) := by rw [Int.mul_assoc, Int.mul_left_comm b 2 b, ← Int.mul_assoc]; rfl
  have e2 : (n + 1) * (n + 1) = n * n + 2 * n + 1 := by rw [Int.add_mul, Int.mul_add]; omega
  rw [e1, e2] at h4
  omega
 rcases Int.le_total 0 a with h2 | h2
 · have := key a h2 h
   omega
 · have := key (-a) (by omega) (by rw [Int.neg_mul_neg]; exact h)
   omega

def smlD (p : Pt) : Prop := (-40000 ≤ p.x ∧ p.x ≤ 40000) ∧ (-40000 ≤ p.y ∧ p.y ≤ 40000) ∧ (-40000 ≤ p.z ∧ p.z ≤ 40000)
def tinyP (p : Pt) : Prop := (0 ≤ p.x ∧ p.x ≤ 16384) ∧ (0 ≤ p.y ∧ p.y ≤ 16384) ∧ (0 ≤ p.z ∧ p.z ≤ 16384)
theorem subP_sml {a p : Pt} (ha : tinyP a) (hp : tinyP p) : smlD (subP p a) := by
 unfold tinyP at *
 simp only [smlD, subP, wrap64]
 omega

set_option maxRecDepth 100000 in
set_option maxHeartbeats 8000000 in
theorem refInBall_any (a : Pt) (n : Int) (p : Pt) (ha : tinyP a) (hp : tinyP p) (w : World) : Calls Tryz.prog 34 #[.agg #[.int .i64 a.x, .int .i64 a.y, .int .i64 a.z], .int .i64 n, .agg #[.int .i64 p.x, .int .i64 p.y, .int .i64 p.z]] w fun e w' => e = .returned (.bool (ballQ a n p)) ∧ Ext w w' := by
 have hm := mixed
 have hG := near_old
 obtain ⟨W0, hW⟩ : ∃ W, W = (w.alloc (.cells #[.int .i64 a.x, .int .i64 a.y, .int .i64 a.z] 25)).alloc (.cells #[.int .i64 p.x, .int .i64 p.y, .int .i64 p.z] 25) := ⟨_, rfl⟩
 have HX := Lib.hid (show Ext w W0 by rw [hW]; exact ((Ext.refl w).alloc _).alloc _)
 have H3 := Lib.hid (show Arr W0 w.heap.size 25 [.int .i64 a.x, .int .i64 a.y, .int .i64 a.z] by rw [hW]; exact (Arr.new w 25 [.int .i64 a.x, .int .i64 a.y, .int .i64 a.z]).alloc _)
 have H5 := Lib.hid (show Arr W0 (w.heap.size + 1) 25 [.int .i64 p.x, .int .i64 p.y, .int .i64 p.z] by rw [hW]; have h := Arr.new (w.alloc (.cells #[.int .i64 a.x, .int .i64 a.y, .int .i64 a.z] 25)) 25 [.int .i64 p.x, .int .i64 p.y, .int .i64 p.z]; simp only [World.size_alloc_] at h; exact h)
 by_cases hn : 1 ≤ n ∧ n ≤ 4096
 · have HI := Lib.hid (show ∀ W : World, Calls Tryz.prog 79 #[.int .i64 n] W fun e w' => e = .returned (.bool true) ∧ Ext W w' by intro W; have h := refisSize_any n W; rw [show isS n = true by unfold isS; rw [decide_eq_true hn]] at h; exact h)
   have HS := Lib.hid (refSub_any p a)
   have hd : smlD (subP p a) := subP_sml ha hp
   have hb : ballQ a n p = decide (4 * ((subP p a).x * (subP p a).x + (subP p a).y * (subP p a).y + (subP p a).z * (subP p a).z) ≤ n * n) := by unfold ballQ isS; rw [decide_eq_true hn]; rfl
   rw [hb]
   clear hb ha hp
   generalize subP p a = d at HS hd ⊢
   have q1 := sq_rng hd.1
   have q2 := sq_rng hd.2.1
   have q3 := sq_rng hd.2.2
   have q4 : 0 ≤ n * n ∧ n * n ≤ 1600000000 := sq_rng (by omega)
   clear hd
   go_enter Tryz.func34, Tryz.ntmps34
   go_upto_region 1 with fail
   rw [← hW]
   clear hW
   go_upto_region 2 with (first
    | (go_at_call 79; refine (HI.out _).mono ?_; rintro e W1 ⟨rfl, hx⟩; replace HX := xEx HX hx; replace H3 := aEx H3 hx; replace H5 := aEx H5 hx; clear hx))
   go_upto_region 4 with fail
   go_upto_region 5 with (first
    | (refine ldB 25 5 H5.out Tryz.underlying25 ?_) | (refine ldB 25 5 (H5.out.alloc _) Tryz.underlying25 ?_) | (refine ldB 25 5 ((H5.out.alloc _).alloc _) Tryz.underlying25 ?_)
    | (refine ldB 25 3 H3.out Tryz.underlying25 ?_) | (refine ldB 25 3 (H3.out.alloc _) Tryz.underlying25 ?_) | (refine ldB 25 3 ((H3.out.alloc _).alloc _) Tryz.underlying25 ?_)
    | (go_at_call 37; refine (HS.out _).mono ?_; rintro e W2 ⟨rfl, hx⟩; replace HX := xEx HX hx; replace H3 := aEx H3 hx; replace H5 := aEx H5 hx; clear hx)
    | (refine wpList_store_blk2 25 (.tmp 8) (.tmp 15) rfl rfl (Arr.new W2 25 [.int .i64 0, .int .i64 0, .int .i64 0]) [.int .i64 d.x, .int .i64 d.y, .int .i64 d.z] rfl rfl (by kernel_rfl) rfl rfl rfl ?_; intro W3 hW; have Q3_8 := aLt H3; have Q5_8 := aLt H5; have Qw_8 := Lib.hid HX.out.size; replace HX := xNew HX hW; replace H3 := aNew H3 hW; replace H5 := aNew H5 hW; have H8 := nNew hW; clear hW))
   obtain ⟨b8, hb8⟩ : ∃ n, n = W2.heap.size := ⟨_, rfl⟩
   rw [← hb8] at H8 Q3_8 Q5_8 Qw_8 ⊢
   clear hb8
   have c8 := H8.out.cell; have l8 := H8.out.lt
   go_wp2_with fail
   go_ret
   exact ⟨ret_bool (by first | rfl | (rw [Bool.eq_iff_iff]; simp)), HX.out⟩

 · have HI := Lib.hid (show ∀ W : World, Calls Tryz.prog 79 #[.int .i64 n] W fun e w' => e = .returned (.bool false) ∧ Ext W w' by intro W; have h := refisSize_any n W; rw [show isS n = false by unfold isS; rw [decide_eq_false hn]] at h; exact h)
   have hb : ballQ a n p = false := by unfold ballQ isS; rw [decide_eq_false hn]; rfl
   rw [hb]
   clear hb hn ha hp
   go_enter Tryz.func34, Tryz.ntmps34
   go_upto_region 1 with fail
   rw [← hW]
   clear hW
   go_upto_region 2 with (first
    | (go_at_call 79; refine (HI.out _).mono ?_; rintro e W1 ⟨rfl, hx⟩; replace HX := xEx HX hx; replace H3 := aEx H3 hx; replace H5 := aEx H5 hx; clear hx))
   go_upto_region 3 with fail
   go_wp2_with fail
   go_ret
   exact ⟨rfl, HX.out⟩

set_option maxRecDepth 100000 in
set_option maxHeartbeats 8000000 in
theorem refContains_any (a b : Bx) (w : World) : Calls Tryz.prog 41 #[.agg #[.int .i64 a.lo.x, .int .i64 a.lo.y, .int .i64 a.lo.z, .int .i64 a.hi.x, .int .i64 a.hi.y, .int .i64 a.hi.z], .agg #[.int .i64 b.lo.x, .int .i64 b.lo.y, .int .i64 b.lo.z, .int .i64 b.hi.x, .int .i64 b.hi.y, .int .i64 b.hi.z]] w fun e w' => e = .returned (.bool (decide (volP (interB a b) = volP b))) ∧ Ext w w' := by
 have hm := mixed
 have hG := near_old
 obtain ⟨W0, hW⟩ : ∃ W, W = (w.alloc (.cells #[.int .i64 a.lo.x, .int .i64 a.lo.y, .int .i64 a.lo.z, .int .i64 a.hi.x, .int .i64 a.hi.y, .int .i64 a.hi.z] 27)).alloc (.cells #[.int .i64 b.lo.x, .int .i64 b.lo.y, .int .i64 b.lo.z, .int .i64 b.hi.x, .int .i64 b.hi.y, .int .i64 b.hi.z] 27) := ⟨_, rfl⟩
 have HX := Lib.hid (show Ext w W0 by rw [hW]; exact ((Ext.refl w).alloc _).alloc _)
 have H2 := Lib.hid (show Arr W0 w.heap.size 27 [.int .i64 a.lo.x, .int .i64 a.lo.y, .int .i64 a.lo.z, .int .i64 a.hi.x, .int .i64 a.hi.y, .int .i64 a.hi.z] by rw [hW]; exact (Arr.new w 27 [.int .i64 a.lo.x, .int .i64 a.lo.y, .int .i64 a.lo.z, .int .i64 a.hi.x, .int .i64 a.hi.y, .int .i64 a.hi.z]).alloc _)
 have H3 := Lib.hid (show Arr W0 (w.heap.size + 1) 27 [.int .i64 b.lo.x, .int .i64 b.lo.y, .int .i64 b.lo.z, .int .i64 b.hi.x, .int .i64 b.hi.y, .int .i64 b.hi.z] by rw [hW]; have h := Arr.new (w.alloc (.cells #[.int .i64 a.lo.x, .int .i64 a.lo.y, .int .i64 a.lo.z, .int .i64 a.hi.x, .int .i64 a.hi.y, .int .i64 a.hi.z] 27)) 27 [.int .i64 b.lo.x, .int .i64 b.lo.y, .int .i64 b.lo.z, .int .i64 b.hi.x, .int .i64 b.hi.y, .int .i64 b.hi.z]; simp only [World.size_alloc_] at h; exact h)
 have HI := Lib.hid (refIntersect_any a b)
 generalize interB a b = c at HI ⊢
 have HV1 := Lib.hid (refVolume_any c)
 have HV2 := Lib.hid (refVolume_any b)
 generalize volP c = v1 at HV1 ⊢
 generalize volP b = v2 at HV2 ⊢
 go_enter Tryz.func41, Tryz.ntmps41
 go_upto_region 1 with fail
 rw [← hW]
 clear hW
 have HN0 := Lib.hid (fun W : World => HI.out W)
 have HN1 := Lib.hid (fun W : World => HV1.out W)
 have HN2 := Lib.hid (fun W : World => HV2.out W)
 have c2 := H2.out.cell; have l2 := H2.out.lt
 have c3 := H3.out.cell; have l3 := H3.out.lt
 refine wp_region_near (by assumption) (by kernel_rfl) ?_
 repeat (go_big_quiet_step ((first | (go_at_call 62; with_reducible exact near_call (HN0.out _)) | (go_at_call 85; with_reducible exact near_call (HN1.out _)) | (go_at_call 85; with_reducible exact near_call (HN2.out _)))))
 refine wpQuiet_nil ?_
 intro w1 hw1
 have hy := Ext.of_near hw1
 clear hw1
 replace HX := xEx HX hy; replace H2 := aEx H2 hy; replace H3 := aEx H3 hy
 clear hy c2 l2 c3 l3
 go_wp2_with fail
 go_ret
 exact ⟨ret_bool (by first | rfl | (rw [Bool.eq_iff_iff]; simp)), HX.out⟩

end Go.Proofs.YtlinhgannajfpaaGreatDoor

/- Helpers of printed walks: parts of a block, zero values. -/
namespace Go.Proofs.YtlinhgannajfpaaGreatDoor
open Go Go.RowKit

theorem info_zero {P : Program} {T : TypeId} {zs : List Value} (h : ((P.info? T).map fun i => i.zero.map fun z => z.cells.toList) = some (some zs)) : ∃ i z, P.info? T = some i ∧ i.zero = some z ∧ z.cells.toList = zs := by
 cases hq : P.info? T with
 | none => rw [hq] at h; cases h
 | some i =>
   rw [hq] at h
   simp only [Option.map_some, Option.some.injEq] at h
   obtain ⟨z, h1, h2⟩ := Option.map_eq_some_iff.1 h
   exact ⟨i, z, rfl, h1, h2⟩
theorem Arr.rng {w : World} {b : Nat} {t : TypeId} {vs : List Value} (h : Arr w b t vs) (o : Nat) (cs : List Value) (e : (vs.drop o).take cs.length = cs) : ∀ j v, cs[j]? = some v → w.cell? ⟨b, o + j, none⟩ = some v := fun j v hv => by
 rw [h.cell (o + j)]
 rw [← e, List.getElem?_take] at hv
 split at hv
 · simpa [List.getElem?_drop] using hv
 · cases hv
theorem op_loadpart {P : Program} {o : Oper} {b : Act} {w1 : World} {K : Act → World → Prop} {Q : Exit → Act → World → Prop} {t : TypeId} {x : Operand} (ho : o.op = .load t x) (bk off : Nat) (cs : List Value) (hx : b.eval x = .pointer (some ⟨bk, off, none⟩)) {tb : TypeId} {vs : List Value} (hB : Arr w1 bk tb vs) (e : (vs.drop off).take cs.length = cs) (d : TypeDesc) (hu : P.underlying t = some d)
    (hd : d.isRow = true) (hi : (P.info? t).map (·.size) = some cs.length) (h : K (b.put o.dst (.agg cs.toArray)) w1) : o.wp P b w1 K Q := wp_load_mid t x ho bk off hx cs d (hB.rng off cs e) hu hd hi h
end Go.Proofs.YtlinhgannajfpaaGreatDoor

/- Composed symmetries, plainly: each is found. -/
namespace Go.Proofs.YtlinhgannajfpaaGreatDoor
open Go Go.RowKit

def markP : Pt := ⟨1, 2, 3⟩
def twoP (a b : Int) : Pt := rturnP a 0 (rturnP b 0 markP)
theorem neqPt2_run (a b : Pt) (w : World) : (binOp .neq 25 (.agg #[.int .i64 a.x, .int .i64 a.y, .int .i64 a.z]) (.agg #[.int .i64 b.x, .int .i64 b.y, .int .i64 b.z])).run Tryz.prog w = .ok (.bool (decide (a ≠ b))) w := by
 obtain ⟨a4, a5, a6⟩ := a
 obtain ⟨b4, b5, b6⟩ := b
 simp [go_sem]
 by_cases h4 : a4 = b4
 · by_cases h5 : a5 = b5
   · by_cases h6 : a6 = b6 <;> simp [h4, h5, h6]
   · simp [h4, h5]
 · simp [h4]
theorem two_found : ∀ a, a < 48 → ∀ b, b < 48 → ((List.range 48).any fun s => decide (rturnP (s : Nat) 0 markP = twoP (a : Nat) (b : Nat))) = true := by decide +kernel
theorem inv_found : ∀ s, s < 48 → ((List.range 48).any fun t => decide (twoP (t : Nat) (s : Nat) = markP)) = true := by decide +kernel
theorem inv_rel : ∀ t, t < 48 → ∀ s, s < 48 → twoP (t : Nat) (s : Nat) = markP → ∀ j, j < 3 → axI (t : Nat) (axI (s : Nat) (j : Nat)) = (j : Nat) ∧ ngI (t : Nat) (axI (s : Nat) (j : Nat)) = ngI (s : Nat) (j : Nat) := by decide +kernel
theorem turn_zero : rturnP 0 0 markP = markP := by decide +kernel
theorem first_with (p : Nat → Bool) : ∀ n : Nat, ((List.range n).any p) = true → ∃ s, s < n ∧ p s = true ∧ ∀ i, i < s → p i = false := by
 intro n
 induction n with
 | zero => intro h; simp at h
 | succ n ih =>
   intro h
   by_cases h1 : ((List.range n).any p) = true
   · obtain ⟨s, hs, h2, h3⟩ := ih h1
     exact ⟨s, by omega, h2, h3⟩
   · rw [List.range_succ, List.any_append] at h
     rw [Bool.not_eq_true] at h1
     rw [h1] at h
     refine ⟨n, by omega, by simpa using h, fun i hi => ?_⟩
     rw [List.any_eq_false] at h1
     have := h1 i (List.mem_range.2 hi)
     simpa using this
end Go.Proofs.YtlinhgannajfpaaGreatDoor

/- The reference's Compose and Invert (symmetries). -/
namespace Go.Proofs.YtlinhgannajfpaaGreatDoor
open Go Go.RowKit

set_option maxRecDepth 100000 in
set_option maxHeartbeats 8000000 in
theorem refmark_any  (w : World) : Calls Tryz.prog 121 #[] w fun e w' => e = .returned (.agg #[.int .i64 markP.x, .int .i64 markP.y, .int .i64 markP.z]) ∧ Ext w w' := by
 have hm := mixed
 have hG := near_old
 obtain ⟨W0, hW⟩ : ∃ W, W = w.alloc (.cells #[.int .i64 0, .int .i64 0, .int .i64 0] 25) := ⟨_, rfl⟩
 have HX := Lib.hid (show Ext w W0 by rw [hW]; exact (Ext.refl w).alloc _)
 have H0 := Lib.hid (show Arr W0 w.heap.size 25 [.int .i64 0, .int .i64 0, .int .i64 0] by rw [hW]; exact Arr.new w 25 [.int .i64 0, .int .i64 0, .int .i64 0])
 go_enter Tryz.func121, Tryz.ntmps121
 go_upto_region 1 with fail
 rw [← hW]
 clear hW
 go_wp2_with (first
  | (refine wpList_store_blk2 25 (.tmp 0) (.tmp 1) rfl rfl H0.out [.int .i64 1, .int .i64 2, .int .i64 3] rfl rfl (by kernel_rfl) rfl rfl rfl ?_; intro W1 hW; replace HX := xRow HX hW (by omega); replace H0 := nRow H0 hW; clear hW))
 refine bodyPost_ret (v := .agg #[.int .i64 1, .int .i64 2, .int .i64 3]) ?_ rfl ⟨rfl, HX.out⟩
 exact results_cell_row Tryz.results121 _ _ _ _ _ _ _ rfl H0.out Tryz.underlying25 rfl (by kernel_rfl)

set_option maxRecDepth 100000 in
set_option maxHeartbeats 16000000 in
theorem refCompose_any (a b : Int) (ha : 0 ≤ a ∧ a < 48) (hb : 0 ≤ b ∧ b < 48) (w : World) : Calls Tryz.prog 84 #[.int .i64 a, .int .i64 b] w fun e w' => ∃ r : Int, e = .returned (.int .i64 r) ∧ (r = 0 ↔ twoP a b = markP) ∧ Ext w w' := by
 have hm := mixed
 have hG := near_old
 have HIa := Lib.hid (show ∀ W : World, Calls Tryz.prog 81 #[.int .i64 a] W fun e w' => e = .returned (.bool true) ∧ Ext W w' by intro W; have h := refis_any a W; rw [show isT a = true by unfold isT; rw [decide_eq_true ha]] at h; exact h)
 have HIb := Lib.hid (show ∀ W : World, Calls Tryz.prog 81 #[.int .i64 b] W fun e w' => e = .returned (.bool true) ∧ Ext W w' by intro W; have h := refis_any b W; rw [show isT b = true by unfold isT; rw [decide_eq_true hb]] at h; exact h)
 have hf := two_found a.toNat (by omega) b.toNat (by omega)
 rw [Int.toNat_of_nonneg ha.1, Int.toNat_of_nonneg hb.1] at hf
 obtain ⟨s0, hs0, he0, hn0⟩ := first_with _ 48 hf
 rw [decide_eq_true_eq] at he0
 have HT1 := Lib.hid (refTurn_any b markP)
 have HT2 := Lib.hid (refTurn_any a (rturnP b 0 markP))
 have HTk := Lib.hid (fun k : Nat => refTurn_any (k : Int) markP)
 have HZ : (s0 : Int) = 0 ↔ twoP a b = markP := by
  constructor
  · intro h
    have h1 : s0 = 0 := by omega
    subst h1
    rw [← he0]
    exact turn_zero
  · intro h
    by_cases h1 : s0 = 0
    · omega
    · have h2 := hn0 0 (by omega)
      rw [decide_eq_false_iff_not] at h2
      exact absurd (turn_zero.trans h.symm) h2
 have HZ := Lib.hid HZ
 have hx0 : twoP a b = rturnP a 0 (rturnP b 0 markP) := rfl
 rw [← hx0] at HT2
 generalize twoP a b = X at HT2 he0 hn0 HZ
 clear hx0
 generalize rturnP b 0 markP = q at HT1 HT2
 have HN := Lib.hid hn0
 have HE := Lib.hid he0
 have hs1 : (s0 : Int) < 48 := by omega
 clear hf ha hb hn0 he0 hs0
 go_enter Tryz.func84, Tryz.ntmps84
 go_upto_region 5 with (first
  | (go_at_call 81; refine (HIa.out _).mono ?_; rintro e W1 ⟨rfl, hx⟩; have HX1 := Lib.hid hx; clear hx)
  | (go_at_call 81; refine (HIb.out _).mono ?_; rintro e W2 ⟨rfl, hx⟩; have HX2 := Lib.hid (HX1.out.trans hx); clear hx))
 go_upto_region 6 with (first
  | (go_at_call 121; refine (refmark_any _).mono ?_; rintro e W3 ⟨rfl, hx⟩; have HX3 := Lib.hid (HX2.out.trans hx); clear hx)
  | (go_at_call 120; with_reducible refine (HT1.out _).mono ?_; (rintro e W4 ⟨rfl, hx⟩; have HX4 := Lib.hid (HX3.out.trans hx); clear hx))
  | (go_at_call 120; with_reducible refine (HT2.out _).mono ?_; (rintro e W5 ⟨rfl, hx⟩; have HX5 := Lib.hid (HX4.out.trans hx); clear hx))
  | (refine wpList_store_blk2 25 (.tmp 7) (.tmp 23) rfl rfl (Arr.new W5 25 [.int .i64 0, .int .i64 0, .int .i64 0]) [.int .i64 X.x, .int .i64 X.y, .int .i64 X.z] rfl rfl (by kernel_rfl) rfl rfl rfl ?_; intro W6 hW; have HX6 := Lib.hid (show Ext w W6 by rw [hW]; exact (HX5.out.alloc _).setRow (g := W5.heap.size) HX5.out.size _); have H7 := Lib.hid (show Arr W6 W5.heap.size 25 [.int .i64 X.x, .int .i64 X.y, .int .i64 X.z] by rw [hW]; exact (Arr.new W5 _ _).setRow _); clear hW))
 obtain ⟨b7, hb7⟩ : ∃ n, n = W5.heap.size := ⟨_, rfl⟩
 rw [← hb7] at H7 ⊢
 clear hb7
 go_upto_region 7 with fail
 go_loopw [8] (fun i wr => ∃ k : Nat, k ≤ s0 ∧ i = .int .i64 (k : Int) ∧ Arr wr b7 25 [.int .i64 X.x, .int .i64 X.y, .int .i64 X.z] ∧ Ext w wr) (fun i _ => s0 - (intOf i).toNat)
 case atStart => exact ⟨0, Nat.zero_le _, rfl, H7.out, HX6.out⟩
 case round =>
  obtain ⟨k, hk, rfl, hA, hx⟩ := hrel
  have HA := Lib.hid hA
  have HXk := Lib.hid hx
  have HTK := Lib.hid (HTk.out k)
  obtain ⟨tk, htk⟩ : ∃ tk, rturnP (k : Int) 0 markP = tk := ⟨_, rfl⟩
  have hne := neqPt2_run tk X
  have HK : (k = s0 ∧ tk = X) ∨ (k < s0 ∧ tk ≠ X) := by
   by_cases h : k = s0
   · subst h; exact .inl ⟨rfl, htk.symm.trans HE.out⟩
   · have h1 : k < s0 := by omega
     exact .inr ⟨h1, by have h2 := HN.out k h1; rw [decide_eq_false_iff_not, htk] at h2; exact h2⟩
  rw [htk] at HTK
  clear htk hA hx
  rcases HK with ⟨hks, hq⟩ | ⟨hks, hq⟩
  · rw [show decide (tk ≠ X) = false by rw [decide_eq_false_iff_not]; exact fun h => h hq] at hne
    clear hq
    go_upto_region 7 with fail
    refine wp_region_rel (fun i v w' => match i with
        | 0 => v = .int .i64 (k : Int)
        | 1 => v = .agg #[.int .i64 markP.x, .int .i64 markP.y, .int .i64 markP.z]
        | 2 => v = .agg #[.int .i64 tk.x, .int .i64 tk.y, .int .i64 tk.z]
        | 3 => v = .agg #[.int .i64 X.x, .int .i64 X.y, .int .i64 X.z]
        | 4 => v = .bool false
        | _ => True) hm (by kernel_rfl) (by kernel_rfl) rfl ?_ ?_ ?_
    · intro i v w1 w2 hx h
      match i, h with
      | 0, h => exact h
      | 1, h => exact h
      | 2, h => exact h
      | 3, h => exact h
      | 4, h => exact h
      | i + 5, h => exact h
    · intro i o ho b w1 hx hmiss hdep K hK
      match i, ho with
      | 0, ho =>
        obtain rfl := Option.some.inj ho
        have e8 : b.tmps[8]? = some (.int .i64 (k : Int)) := hmiss 8 rfl
        refine want_none rfl ?_
        exact op_move rfl (eval_of e8) (hK _ w1 (Ext.refl _) rfl)
      | 1, ho =>
        obtain rfl := Option.some.inj ho
        refine want_none rfl ?_
        have hc : Calls Tryz.prog 121 #[] w1 fun e w' => ∃ v, e = .returned v ∧ Ext w1 w' ∧ (v = .agg #[.int .i64 markP.x, .int .i64 markP.y, .int .i64 markP.z]) := (refmark_any w1).mono fun e w2 ⟨h1, h2⟩ => ⟨_, h1, h2, rfl⟩
        exact op_call (G := fun v w' => v = .agg #[.int .i64 markP.x, .int .i64 markP.y, .int .i64 markP.z]) (vs := #[]) rfl (by simp) (fun _ _ => by kernel_rfl) hc (fun v w' h1 h2 => hK v w' h1 h2)
      | 2, ho =>
        obtain rfl := Option.some.inj ho
        obtain ⟨v24, g24, e24⟩ := hdep 0 rfl
        have g24 : v24 = .int .i64 (k : Int) := g24
        subst g24
        have e24 := e24 24 rfl
        obtain ⟨v25, g25, e25⟩ := hdep 1 rfl
        obtain rfl := g25
        have e25 := e25 25 rfl
        refine want_none rfl ?_
        have hc : Calls Tryz.prog 120 #[.int .i64 (k : Int), .agg #[.int .i64 markP.x, .int .i64 markP.y, .int .i64 markP.z]] w1 fun e w' => ∃ v, e = .returned v ∧ Ext w1 w' ∧ (v = .agg #[.int .i64 tk.x, .int .i64 tk.y, .int .i64 tk.z]) := (HTK.out w1).mono fun e w2 ⟨h1, h2⟩ => ⟨_, h1, h2, rfl⟩
        exact op_call (G := fun v w' => v = .agg #[.int .i64 tk.x, .int .i64 tk.y, .int .i64 tk.z]) rfl (by simp [eval_of e24, eval_of e25]) (fun _ _ => by kernel_rfl) hc (fun v w' h1 h2 => hK v w' h1 h2)
      | 3, ho =>
        obtain rfl := Option.some.inj ho
        have e7 : b.tmps[7]? = some (.pointer (some ⟨b7, 0, none⟩)) := hmiss 7 rfl
        refine want_none rfl ?_
        exact op_loadrow rfl (eval_of e7) (HA.out.ext hx) _ Tryz.underlying25 rfl (by kernel_rfl) (hK _ w1 (Ext.refl _) rfl)
      | 4, ho =>
        obtain rfl := Option.some.inj ho
        obtain ⟨v26, g26, e26⟩ := hdep 2 rfl
        obtain rfl := g26
        have e26 := e26 26 rfl
        obtain ⟨v27, g27, e27⟩ := hdep 3 rfl
        have g27 : v27 = .agg #[.int .i64 X.x, .int .i64 X.y, .int .i64 X.z] := g27
        subst g27
        have e27 := e27 27 rfl
        refine want_none rfl ?_
        exact op_run (by unfold execOp; simp [e26, e27, Act.eval, go_sem, hne]) (hK _ w1 (Ext.refl _) rfl)
      | i + 5, ho => cases ho
    · intro V w9 hx hg
      have g0 : V 0 = .int .i64 (k : Int) := hg 0 (by decide)
      have g3 : V 3 = .agg #[.int .i64 X.x, .int .i64 X.y, .int .i64 X.z] := hg 3 (by decide)
      have g4 : V 4 = .bool false := hg 4 (by decide)
      have g1 := hg 1 (by decide)
      have g2 := hg 2 (by decide)
      simp only [List.length_cons, List.length_nil, fillAllN, dstOf, Act.put, List.getElem?_toArray, List.getElem?_cons_zero, List.getElem?_cons_succ, Option.bind_some, g0, g3, g4, List.setIfInBounds_toArray, List.set_cons_zero, List.set_cons_succ]
      clear g0 g3 g4 hg
      go_wp2_with fail
      have HZ2 := HZ.out
      have hx9 := HXk.out.trans hx
      go_ret
      exact ⟨_, rfl, HZ2, hx9⟩
  · rw [show decide (tk ≠ X) = true by rw [decide_eq_true_eq]; exact hq] at hne
    clear hq
    go_upto_region 7 with fail
    refine wp_region_rel (fun i v w' => match i with
        | 0 => v = .int .i64 (k : Int)
        | 1 => v = .agg #[.int .i64 markP.x, .int .i64 markP.y, .int .i64 markP.z]
        | 2 => v = .agg #[.int .i64 tk.x, .int .i64 tk.y, .int .i64 tk.z]
        | 3 => v = .agg #[.int .i64 X.x, .int .i64 X.y, .int .i64 X.z]
        | 4 => v = .bool true
        | _ => True) hm (by kernel_rfl) (by kernel_rfl) rfl ?_ ?_ ?_
    · intro i v w1 w2 hx h
      match i, h with
      | 0, h => exact h
      | 1, h => exact h
      | 2, h => exact h
      | 3, h => exact h
      | 4, h => exact h
      | i + 5, h => exact h
    · intro i o ho b w1 hx hmiss hdep K hK
      match i, ho with
      | 0, ho =>
        obtain rfl := Option.some.inj ho
        have e8 : b.tmps[8]? = some (.int .i64 (k : Int)) := hmiss 8 rfl
        refine want_none rfl ?_
        exact op_move rfl (eval_of e8) (hK _ w1 (Ext.refl _) rfl)
      | 1, ho =>
        obtain rfl := Option.some.inj ho
        refine want_none rfl ?_
        have hc : Calls Tryz.prog 121 #[] w1 fun e w' => ∃ v, e = .returned v ∧ Ext w1 w' ∧ (v = .agg #[.int .i64 markP.x, .int .i64 markP.y, .int .i64 markP.z]) := (refmark_any w1).mono fun e w2 ⟨h1, h2⟩ => ⟨_, h1, h2, rfl⟩
        exact op_call (G := fun v w' => v = .agg #[.int .i64 markP.x, .int .i64 markP.y, .int .i64 markP.z]) (vs := #[]) rfl (by simp) (fun _ _ => by kernel_rfl) hc (fun v w' h1 h2 => hK v w' h1 h2)
      | 2, ho =>
        obtain rfl := Option.some.inj ho
        obtain ⟨v24, g24, e24⟩ := hdep 0 rfl
        have g24 : v24 = .int .i64 (k : Int) := g24
        subst g24
        have e24 := e24 24 rfl
        obtain ⟨v25, g25, e25⟩ := hdep 1 rfl
        obtain rfl := g25
        have e25 := e25 25 rfl
        refine want_none rfl ?_
        have hc : Calls Tryz.prog 120 #[.int .i64 (k : Int), .agg #[.int .i64 markP.x, .int .i64 markP.y, .int .i64 markP.z]] w1 fun e w' => ∃ v, e = .returned v ∧ Ext w1 w' ∧ (v = .agg #[.int .i64 tk.x, .int .i64 tk.y, .int .i64 tk.z]) := (HTK.out w1).mono fun e w2 ⟨h1, h2⟩ => ⟨_, h1, h2, rfl⟩
        exact op_call (G := fun v w' => v = .agg #[.int .i64 tk.x, .int .i64 tk.y, .int .i64 tk.z]) rfl (by simp [eval_of e24, eval_of e25]) (fun _ _ => by kernel_rfl) hc (fun v w' h1 h2 => hK v w' h1 h2)
      | 3, ho =>
        obtain rfl := Option.some.inj ho
        have e7 : b.tmps[7]? = some (.pointer (some ⟨b7, 0, none⟩)) := hmiss 7 rfl
        refine want_none rfl ?_
        exact op_loadrow rfl (eval_of e7) (HA.out.ext hx) _ Tryz.underlying25 rfl (by kernel_rfl) (hK _ w1 (Ext.refl _) rfl)
      | 4, ho =>
        obtain rfl := Option.some.inj ho
        obtain ⟨v26, g26, e26⟩ := hdep 2 rfl
        obtain rfl := g26
        have e26 := e26 26 rfl
        obtain ⟨v27, g27, e27⟩ := hdep 3 rfl
        have g27 : v27 = .agg #[.int .i64 X.x, .int .i64 X.y, .int .i64 X.z] := g27
        subst g27
        have e27 := e27 27 rfl
        refine want_none rfl ?_
        exact op_run (by unfold execOp; simp [e26, e27, Act.eval, go_sem, hne]) (hK _ w1 (Ext.refl _) rfl)
      | i + 5, ho => cases ho
    · intro V w9 hx hg
      have g0 : V 0 = .int .i64 (k : Int) := hg 0 (by decide)
      have g3 : V 3 = .agg #[.int .i64 X.x, .int .i64 X.y, .int .i64 X.z] := hg 3 (by decide)
      have g4 : V 4 = .bool true := hg 4 (by decide)
      have g1 := hg 1 (by decide)
      have g2 := hg 2 (by decide)
      simp only [List.length_cons, List.length_nil, fillAllN, dstOf, Act.put, List.getElem?_toArray, List.getElem?_cons_zero, List.getElem?_cons_succ, Option.bind_some, g0, g3, g4, List.setIfInBounds_toArray, List.set_cons_zero, List.set_cons_succ]
      clear g0 g3 g4 hg
      have HX9 := Lib.hid (HXk.out.trans hx); have HA9 := Lib.hid (HA.out.ext hx)
      clear hx
      go_wp2_with fail
      go_roundw
      case rel => exact ⟨k + 1, by omega, by simp, HA9.out, HX9.out⟩
      case measure => simp [intOf]; omega

end Go.Proofs.YtlinhgannajfpaaGreatDoor

/- The reference's Invert. -/
namespace Go.Proofs.YtlinhgannajfpaaGreatDoor
open Go Go.RowKit

def invN (s : Nat) : Nat := ((List.range 48).find? fun t => decide (twoP (t : Nat) (s : Nat) = markP)).getD 0
def invI (s : Int) : Int := (invN s.toNat : Nat)
theorem inv_spec : ∀ s, s < 48 → (invN s < 48 ∧ twoP (invN s : Nat) (s : Nat) = markP) ∧ ∀ i, i < 48 → i < invN s → decide (twoP (i : Nat) (s : Nat) = markP) = false := by decide +kernel
theorem invI_rng {s : Int} (hs : 0 ≤ s ∧ s < 48) : 0 ≤ invI s ∧ invI s < 48 := by
 have h := (inv_spec s.toNat (by omega)).1.1
 unfold invI
 omega
theorem invI_two {s : Int} (hs : 0 ≤ s ∧ s < 48) : twoP (invI s) s = markP := by
 have h := (inv_spec s.toNat (by omega)).1.2
 rw [Int.toNat_of_nonneg hs.1] at h
 exact h
theorem invI_rel {s : Int} (hs : 0 ≤ s ∧ s < 48) {j : Int} (hj : 0 ≤ j ∧ j < 3) : axI (invI s) (axI s j) = j ∧ ngI (invI s) (axI s j) = ngI s j := by
 have ht := invI_rng hs
 have h := inv_rel (invI s).toNat (by omega) s.toNat (by omega)
 rw [Int.toNat_of_nonneg hs.1, Int.toNat_of_nonneg ht.1] at h
 have h2 := h (invI_two hs) j.toNat (by omega)
 rw [Int.toNat_of_nonneg hj.1] at h2
 exact h2

set_option maxRecDepth 100000 in
set_option maxHeartbeats 8000000 in
theorem refInvert_any (s : Int) (hs : 0 ≤ s ∧ s < 48) (w : World) : Calls Tryz.prog 40 #[.int .i64 s] w fun e w' => e = .returned (.int .i64 (invI s)) ∧ Ext w w' := by
 have HI := Lib.hid (show ∀ W : World, Calls Tryz.prog 81 #[.int .i64 s] W fun e w' => e = .returned (.bool true) ∧ Ext W w' by intro W; have h := refis_any s W; rw [show isT s = true by unfold isT; rw [decide_eq_true hs]] at h; exact h)
 have hf := inv_spec s.toNat (by omega)
 have hi : invI s = (invN s.toNat : Nat) := rfl
 rw [hi]
 rw [Int.toNat_of_nonneg hs.1] at hf
 generalize invN s.toNat = t0 at hf ⊢
 clear hi
 obtain ⟨⟨ht0, he0⟩, hn0⟩ := hf
 have HN := Lib.hid hn0
 have HE := Lib.hid he0
 have HC := Lib.hid (fun (k : Nat) (h : k < 48) => refCompose_any (k : Int) s (by omega) hs)
 clear he0 hn0
 have hs48 := hs.2
 clear hs
 go_enter Tryz.func40, Tryz.ntmps40
 go_upto_region 5 with (go_at_call 81; refine (HI.out _).mono ?_; rintro e W1 ⟨rfl, hx⟩; have HX1 := Lib.hid hx; clear hx)
 go_loopw [4] (fun i wr => ∃ k : Nat, k ≤ t0 ∧ i = .int .i64 (k : Int) ∧ Ext w wr) (fun i _ => t0 - (intOf i).toNat)
 case atStart => exact ⟨0, Nat.zero_le _, rfl, HX1.out⟩
 case round =>
  obtain ⟨k, hk, rfl, hx⟩ := hrel
  have HXk := Lib.hid hx
  clear hx
  have HCk := Lib.hid (HC.out k (by omega))
  by_cases h : k = t0
  · have HC0 := Lib.hid (show ∀ W : World, Calls Tryz.prog 84 #[.int .i64 (k : Int), .int .i64 s] W fun e w' => e = .returned (.int .i64 0) ∧ Ext W w' from fun W => (HCk.out W).mono fun e w' ⟨r, h1, h2, h3⟩ => ⟨by rw [h1, h2.2 (by rw [h]; exact HE.out)], h3⟩)
    have HR := Lib.hid h
    clear h HCk HC hk
    go_wp2_with (go_at_call 84; refine (HC0.out _).mono ?_; rintro e W2 ⟨rfl, hx⟩; have HX2 := Lib.hid (HXk.out.trans hx); clear hx)
    go_ret
    exact ⟨ret_int (by rw [HR.out]), HX2.out⟩
  · have hlt : k < t0 := by omega
    have HC1 := Lib.hid (show ∀ W : World, Calls Tryz.prog 84 #[.int .i64 (k : Int), .int .i64 s] W fun e w' => ∃ r : Int, e = .returned (.int .i64 r) ∧ ¬ r = 0 ∧ Ext W w' from fun W => (HCk.out W).mono fun e w' ⟨r, h1, h2, h3⟩ => ⟨r, h1, fun h0 => of_decide_eq_false (HN.out k (by omega) hlt) (h2.1 h0), h3⟩)
    clear h HCk HC hk
    go_wp2_with (go_at_call 84; refine (HC1.out _).mono ?_; rintro e W2 ⟨r, rfl, hr0, hx⟩; have HX2 := Lib.hid (HXk.out.trans hx); clear hx)
    go_roundw
    case rel => exact ⟨k + 1, by omega, by simp, HX2.out⟩
    case measure => simp [intOf]; omega

end Go.Proofs.YtlinhgannajfpaaGreatDoor

/- The reference's InPrism. -/
namespace Go.Proofs.YtlinhgannajfpaaGreatDoor
open Go Go.RowKit

def rampQ (_c : Bx) (z q : Pt) : Bool := decide (wrap64 (q.x * z.z) < wrap64 (wrap64 (q.z + 1) * z.x))
def prismQ (t : Int) (b : Bx) (p : Pt) : Bool := rampQ (turnB t b) (sizeP (turnB t b)) (subP (rturnP t 1 p) (turnB t b).lo)
def prismR (b : Bx) (s : Int) (p : Pt) : Bool := inP p b && prismQ (invI s) b p

set_option maxRecDepth 100000 in
set_option maxHeartbeats 8000000 in
theorem refInPrism_any (b : Bx) (s : Int) (p : Pt) (hs : 0 ≤ s ∧ s < 48) (he : emptyB b = false) (hb : smlB b) (w : World) : Calls Tryz.prog 35 #[.agg #[.int .i64 b.lo.x, .int .i64 b.lo.y, .int .i64 b.lo.z, .int .i64 b.hi.x, .int .i64 b.hi.y, .int .i64 b.hi.z], .int .i64 s, .agg #[.int .i64 p.x, .int .i64 p.y, .int .i64 p.z]] w fun e w' => e = .returned (.bool (prismR b s p)) ∧ Ext w w' := by
 have hm := mixed
 have hG := near_old
 obtain ⟨W0, hW⟩ : ∃ W, W = (w.alloc (.cells #[.int .i64 b.lo.x, .int .i64 b.lo.y, .int .i64 b.lo.z, .int .i64 b.hi.x, .int .i64 b.hi.y, .int .i64 b.hi.z] 27)).alloc (.cells #[.int .i64 p.x, .int .i64 p.y, .int .i64 p.z] 25) := ⟨_, rfl⟩
 have HX := Lib.hid (show Ext w W0 by rw [hW]; exact ((Ext.refl w).alloc _).alloc _)
 have H3 := Lib.hid (show Arr W0 w.heap.size 27 [.int .i64 b.lo.x, .int .i64 b.lo.y, .int .i64 b.lo.z, .int .i64 b.hi.x, .int .i64 b.hi.y, .int .i64 b.hi.z] by rw [hW]; exact (Arr.new w 27 [.int .i64 b.lo.x, .int .i64 b.lo.y, .int .i64 b.lo.z, .int .i64 b.hi.x, .int .i64 b.hi.y, .int .i64 b.hi.z]).alloc _)
 have H5 := Lib.hid (show Arr W0 (w.heap.size + 1) 25 [.int .i64 p.x, .int .i64 p.y, .int .i64 p.z] by rw [hW]; have h := Arr.new (w.alloc (.cells #[.int .i64 b.lo.x, .int .i64 b.lo.y, .int .i64 b.lo.z, .int .i64 b.hi.x, .int .i64 b.hi.y, .int .i64 b.hi.z] 27)) 25 [.int .i64 p.x, .int .i64 p.y, .int .i64 p.z]; simp only [World.size_alloc_] at h; exact h)
 cases hq : inP p b
 · have HI := Lib.hid (show ∀ W : World, Calls Tryz.prog 32 #[.agg #[.int .i64 p.x, .int .i64 p.y, .int .i64 p.z], .agg #[.int .i64 b.lo.x, .int .i64 b.lo.y, .int .i64 b.lo.z, .int .i64 b.hi.x, .int .i64 b.hi.y, .int .i64 b.hi.z]] W fun e w' => e = .returned (.bool false) ∧ Ext W w' by have h := refIn_any p b; rw [hq] at h; exact h)
   have hd : prismR b s p = false := by unfold prismR; rw [hq]; rfl
   rw [hd]
   have h1 : ¬ s < 0 := by omega
   have h2 : ¬ 47 < s := by omega
   clear hd hq hs he hb
   go_enter Tryz.func35, Tryz.ntmps35
   go_upto_region 1 with fail
   rw [← hW]
   clear hW
   go_upto_region 2 with (first
    | (refine ldB 25 5 H5.out Tryz.underlying25 ?_) | (refine ldB 25 5 (H5.out.alloc _) Tryz.underlying25 ?_) | (refine ldB 25 5 ((H5.out.alloc _).alloc _) Tryz.underlying25 ?_)
    | (refine ldB 27 3 H3.out Tryz.underlying27 ?_) | (refine ldB 27 3 (H3.out.alloc _) Tryz.underlying27 ?_) | (refine ldB 27 3 ((H3.out.alloc _).alloc _) Tryz.underlying27 ?_)
    | (go_at_call 32; refine (HI.out _).mono ?_; rintro e W1 ⟨rfl, hx⟩; replace HX := xEx HX hx; replace H3 := aEx H3 hx; replace H5 := aEx H5 hx; clear hx))
   go_upto_region 3 with fail
   go_wp2_with fail
   go_ret
   exact ⟨rfl, HX.out⟩

 · have HI := Lib.hid (show ∀ W : World, Calls Tryz.prog 32 #[.agg #[.int .i64 p.x, .int .i64 p.y, .int .i64 p.z], .agg #[.int .i64 b.lo.x, .int .i64 b.lo.y, .int .i64 b.lo.z, .int .i64 b.hi.x, .int .i64 b.hi.y, .int .i64 b.hi.z]] W fun e w' => e = .returned (.bool true) ∧ Ext W w' by have h := refIn_any p b; rw [hq] at h; exact h)
   have hd : prismR b s p = prismQ (invI s) b p := by unfold prismR; rw [hq]; rfl
   rw [hd]
   have ht := invI_rng hs
   have hit : isT (invI s) = true := by unfold isT; rw [decide_eq_true ht]
   have HV := Lib.hid (refInvert_any s hs)
   have h1 : ¬ s < 0 := by omega
   have h2 : ¬ 47 < s := by omega
   unfold prismQ
   generalize invI s = t at HV hit ⊢
   have HTC := Lib.hid (refTurnCell_any t p)
   have HT := refTurnBox_any t b hit he hb
   generalize turnB t b = c at HT ⊢
   replace HT := Lib.hid HT
   have HZ := Lib.hid (refSize_any c)
   generalize sizeP c = z at HZ ⊢
   generalize rturnP t 1 p = u at HTC ⊢
   have HS := Lib.hid (refSub_any u c.lo)
   generalize subP u c.lo = q at HS ⊢
   clear hd hq he hb hit hs ht
   go_enter Tryz.func35, Tryz.ntmps35
   go_upto_region 1 with fail
   rw [← hW]
   clear hW
   go_upto_region 2 with (first
    | (refine ldB 25 5 H5.out Tryz.underlying25 ?_) | (refine ldB 25 5 (H5.out.alloc _) Tryz.underlying25 ?_) | (refine ldB 25 5 ((H5.out.alloc _).alloc _) Tryz.underlying25 ?_)
    | (refine ldB 27 3 H3.out Tryz.underlying27 ?_) | (refine ldB 27 3 (H3.out.alloc _) Tryz.underlying27 ?_) | (refine ldB 27 3 ((H3.out.alloc _).alloc _) Tryz.underlying27 ?_)
    | (go_at_call 32; refine (HI.out _).mono ?_; rintro e W1 ⟨rfl, hx⟩; replace HX := xEx HX hx; replace H3 := aEx H3 hx; replace H5 := aEx H5 hx; clear hx))
   go_upto_region 4 with fail
   go_upto_region 5 with (first
    | (go_at_call 40; refine (HV.out _).mono ?_; rintro e W2 ⟨rfl, hx⟩; replace HX := xEx HX hx; replace H3 := aEx H3 hx; replace H5 := aEx H5 hx; clear hx))
   go_upto_region 6 with (first
    | (refine ldB 27 3 H3.out Tryz.underlying27 ?_) | (refine ldB 27 3 (H3.out.alloc _) Tryz.underlying27 ?_) | (refine ldB 27 3 ((H3.out.alloc _).alloc _) Tryz.underlying27 ?_)
    | (go_at_call 38; refine (HT.out _).mono ?_; rintro e W3 ⟨rfl, hx⟩; replace HX := xEx HX hx; replace H3 := aEx H3 hx; replace H5 := aEx H5 hx; clear hx)
    | (refine wpList_store_blk2 27 (.tmp 9) (.tmp 29) rfl rfl (Arr.new W3 27 [.int .i64 0, .int .i64 0, .int .i64 0, .int .i64 0, .int .i64 0, .int .i64 0]) [.int .i64 c.lo.x, .int .i64 c.lo.y, .int .i64 c.lo.z, .int .i64 c.hi.x, .int .i64 c.hi.y, .int .i64 c.hi.z] rfl rfl (by kernel_rfl) rfl rfl rfl ?_; intro W4 hW; have Q3_9 := aLt H3; have Q5_9 := aLt H5; have Qw_9 := Lib.hid HX.out.size; replace HX := xNew HX hW; replace H3 := aNew H3 hW; replace H5 := aNew H5 hW; have H9 := nNew hW; clear hW))
   obtain ⟨b9, hb9⟩ : ∃ n, n = W3.heap.size := ⟨_, rfl⟩
   rw [← hb9] at H9 Q3_9 Q5_9 Qw_9 ⊢
   clear hb9
   go_upto_region 7 with (first
    | (refine ldB 27 9 H9.out Tryz.underlying27 ?_) | (refine ldB 27 9 (H9.out.alloc _) Tryz.underlying27 ?_) | (refine ldB 27 9 ((H9.out.alloc _).alloc _) Tryz.underlying27 ?_)
    | (go_at_call 80; refine (HZ.out _).mono ?_; rintro e W5 ⟨rfl, hx⟩; replace HX := xEx HX hx; replace H3 := aEx H3 hx; replace H5 := aEx H5 hx; replace H9 := aEx H9 hx; clear hx)
    | (refine wpList_store_blk2 25 (.tmp 10) (.tmp 31) rfl rfl (Arr.new W5 25 [.int .i64 0, .int .i64 0, .int .i64 0]) [.int .i64 z.x, .int .i64 z.y, .int .i64 z.z] rfl rfl (by kernel_rfl) rfl rfl rfl ?_; intro W6 hW; have Q3_10 := aLt H3; have Q5_10 := aLt H5; have Q9_10 := aLt H9; have Qw_10 := Lib.hid HX.out.size; replace HX := xNew HX hW; replace H3 := aNew H3 hW; replace H5 := aNew H5 hW; replace H9 := aNew H9 hW; have H10 := nNew hW; clear hW))
   obtain ⟨b10, hb10⟩ : ∃ n, n = W5.heap.size := ⟨_, rfl⟩
   rw [← hb10] at H10 Q3_10 Q5_10 Q9_10 Qw_10 ⊢
   clear hb10
   (try simp only [Act.put, List.setIfInBounds_toArray, List.set_cons_zero, List.set_cons_succ])
   refine wp_region_box2 (w := W6) (fun i => match i with
       | 0 => .int .i64 t
       | 1 => .agg #[.int .i64 p.x, .int .i64 p.y, .int .i64 p.z]
       | 2 => .agg #[.int .i64 u.x, .int .i64 u.y, .int .i64 u.z]
       | 3 => .pointer (some ⟨b9, 0, none⟩)
       | 4 => .agg #[.int .i64 c.lo.x, .int .i64 c.lo.y, .int .i64 c.lo.z]
       | 5 => .agg #[.int .i64 q.x, .int .i64 q.y, .int .i64 q.z]
       | _ => undef) 6 25 11 37 5 [.int .i64 0, .int .i64 0, .int .i64 0] [.int .i64 q.x, .int .i64 q.y, .int .i64 q.z] hm (by kernel_rfl) (by kernel_rfl) (noGuardD (by kernel_rfl)) rfl ⟨_, rfl, rfl, rfl⟩ ⟨_, rfl, rfl, rfl, ⟨⟨6, .data⟩, by simp, rfl, rfl⟩, ⟨⟨5, .data⟩, by simp, rfl, rfl⟩⟩ (by decide) rfl (by simp) (by simp) rfl (info_zero (by kernel_rfl)) (by kernel_rfl) rfl rfl ?_ ?_
   · intro listed w1 i o ho hin hdep hx b K E0 E1 hK
     match i, ho with
     | 0, ho =>
       obtain rfl := Option.some.inj ho
       have e8 : b.tmps[8]? = some (.int .i64 t) := E0 8 (by kernel_rfl)
       exact op_move rfl (eval_of e8) (hK w1 (Ext.refl _))
     | 1, ho =>
       obtain rfl := Option.some.inj ho
       have e5 : b.tmps[5]? = some (.pointer (some ⟨(w.heap.size + 1), 0, none⟩)) := E0 5 (by kernel_rfl)
       exact op_loadrow rfl (eval_of e5) (H5.out.ext hx) _ Tryz.underlying25 rfl (by kernel_rfl) (hK w1 (Ext.refl _))
     | 2, ho =>
       obtain rfl := Option.some.inj ho
       have e32 : b.tmps[32]? = some (.int .i64 t) := E1 0 32 (by decide) (getD_up (hdep ⟨0, .data⟩ (by simp) rfl)) rfl (by simp)
       have e33 : b.tmps[33]? = some (.agg #[.int .i64 p.x, .int .i64 p.y, .int .i64 p.z]) := E1 1 33 (by decide) (getD_up (hdep ⟨1, .data⟩ (by simp) rfl)) rfl (by simp)
       exact op_call (G := fun v _ => v = .agg #[.int .i64 u.x, .int .i64 u.y, .int .i64 u.z]) rfl (by simp [eval_of e32, eval_of e33]) (fun _ _ => by kernel_rfl) ((HTC.out w1).mono fun e w' ⟨h1, h2⟩ => ⟨_, h1, h2, rfl⟩) (fun v w' h1 h2 => by subst h2; exact hK w' h1)
     | 3, ho =>
       obtain rfl := Option.some.inj ho
       have e9 : b.tmps[9]? = some (.pointer (some ⟨b9, 0, none⟩)) := E0 9 (by kernel_rfl)
       exact op_run (by unfold execOp; simp [e9, Act.eval, go_sem]) (hK w1 (Ext.refl _))
     | 4, ho =>
       obtain rfl := Option.some.inj ho
       have e35 : b.tmps[35]? = some (.pointer (some ⟨b9, 0, none⟩)) := E1 3 35 (by decide) (getD_up (hdep ⟨3, .data⟩ (by simp) rfl)) rfl (by simp)
       exact op_loadpart rfl b9 0 [.int .i64 c.lo.x, .int .i64 c.lo.y, .int .i64 c.lo.z] (eval_of e35) (H9.out.ext hx) rfl _ Tryz.underlying25 rfl (by kernel_rfl) (hK w1 (Ext.refl _))
     | 5, ho =>
       obtain rfl := Option.some.inj ho
       have e34 : b.tmps[34]? = some (.agg #[.int .i64 u.x, .int .i64 u.y, .int .i64 u.z]) := E1 2 34 (by decide) (getD_up (hdep ⟨2, .data⟩ (by simp) rfl)) rfl (by simp)
       have e36 : b.tmps[36]? = some (.agg #[.int .i64 c.lo.x, .int .i64 c.lo.y, .int .i64 c.lo.z]) := E1 4 36 (by decide) (getD_up (hdep ⟨4, .data⟩ (by simp) rfl)) rfl (by simp)
       exact op_call (G := fun v _ => v = .agg #[.int .i64 q.x, .int .i64 q.y, .int .i64 q.z]) rfl (by simp [eval_of e34, eval_of e36]) (fun _ _ => by kernel_rfl) ((HS.out w1).mono fun e w' ⟨h1, h2⟩ => ⟨_, h1, h2, rfl⟩) (fun v w' h1 h2 => by subst h2; exact hK w' h1)
     | i + 6, ho => exact absurd hin (by omega)
   intro b11 w9 hx hg hA
   simp only [List.length_cons, List.length_nil, fillAllN, dstOf, Act.put, List.getElem?_toArray, List.getElem?_cons_zero, List.getElem?_cons_succ, Option.bind_some, List.setIfInBounds_toArray, List.set_cons_zero, List.set_cons_succ, boxV, Nat.lt_irrefl, if_false, if_true, Nat.reduceLT, Nat.reduceEqDiff, Nat.reduceAdd]
   obtain ⟨W7, hW9⟩ : ∃ W, W = w9 := ⟨_, rfl⟩
   rw [← hW9] at hx hA ⊢
   clear hW9
   have Q3_11 := Lib.hid (show w.heap.size < b11 from Nat.lt_of_lt_of_le H3.out.lt hg)
   have Q5_11 := Lib.hid (show (w.heap.size + 1) < b11 from Nat.lt_of_lt_of_le H5.out.lt hg)
   have Q9_11 := Lib.hid (show b9 < b11 from Nat.lt_of_lt_of_le H9.out.lt hg)
   have Q10_11 := Lib.hid (show b10 < b11 from Nat.lt_of_lt_of_le H10.out.lt hg)
   have Qw_11 := Lib.hid (Nat.le_trans HX.out.size hg)
   replace HX := xEx HX hx; replace H3 := aEx H3 hx; replace H5 := aEx H5 hx; replace H9 := aEx H9 hx; replace H10 := aEx H10 hx
   have H11 := Lib.hid hA
   clear hx hg hA
   go_upto_region 8 with fail
   have c10 := H10.out.cell; have l10 := H10.out.lt; have c11 := H11.out.cell; have l11 := H11.out.lt
   go_wp2_with fail
   go_ret
   exact ⟨ret_bool (by unfold rampQ wrap64; first | rfl | (rw [Bool.eq_iff_iff]; simp)), HX.out⟩

end Go.Proofs.YtlinhgannajfpaaGreatDoor

/- A cell in a box, by coordinates. -/
namespace Go.Proofs.YtlinhgannajfpaaGreatDoor
open Go Go.RowKit

theorem inP_iff (p : Pt) (b : Bx) : inP p b = true ↔ ((b.lo.x ≤ p.x ∧ p.x < b.hi.x) ∧ (b.lo.y ≤ p.y ∧ p.y < b.hi.y) ∧ b.lo.z ≤ p.z ∧ p.z < b.hi.z) := by
 unfold inP
 simp only [Bool.and_eq_true, decide_eq_true_eq]
 omega
end Go.Proofs.YtlinhgannajfpaaGreatDoor

/- EditBounds, plainly: what an edit changes lies in its Bounds, and Bounds lies in the cube. -/
namespace Go.Proofs.YtlinhgannajfpaaGreatDoor
open Go Go.RowKit

def changedE (x : Ed) (p : Pt) : Bool :=
 if x.kind = 1 then inP p x.box else if x.kind = 2 then ballQ x.at_ x.size p else if x.kind = 3 then prismR x.box x.turn p
 else if x.kind = 4 then inP (rturnP (invI x.turn) 1 (addP (subP p x.at_) (turnB x.turn x.box).lo)) x.box else if x.kind = 5 then decide (p = x.at_) else false
theorem in_inter {p : Pt} {a b : Bx} (h1 : inP p a = true) (h2 : inP p b = true) : inP p (interB a b) = true := by
 rw [inP_iff] at h1 h2
 have h : inP p (meetB a b) = true := by rw [inP_iff]; unfold meetB; simp only; omega
 have he : emptyB (meetB a b) = false := by
  rw [inP_iff] at h
  unfold emptyB
  rw [Bool.not_eq_false', inP_iff]
  omega
 unfold interB
 rw [he, if_neg (by decide)]
 exact h
theorem cube_holds (r : Bx) (S : Int) (hS : 0 ≤ S) : interB (cubeB S) (interB r (cubeB S)) = interB r (cubeB S) := by
 cases hq : emptyB (meetB r (cubeB S))
 · have h1 : interB r (cubeB S) = meetB r (cubeB S) := by unfold interB; rw [hq, if_neg (by decide)]
   rw [h1]
   have h2 : meetB (cubeB S) (meetB r (cubeB S)) = meetB r (cubeB S) := by
    unfold meetB cubeB
    simp only [Bx.mk.injEq, Pt.mk.injEq]
    omega
   unfold interB
   rw [h2, hq, if_neg (by decide)]
 · have h1 : interB r (cubeB S) = zeroBx := by unfold interB; rw [hq, if_pos rfl]
   rw [h1]
   have h2 : meetB (cubeB S) zeroBx = zeroBx := by
    unfold meetB cubeB zeroBx
    simp only [Bx.mk.injEq, Pt.mk.injEq]
    omega
   unfold interB
   rw [h2]
   rfl
theorem zero_inter (S : Int) (hS : 0 ≤ S) : interB zeroBx (cubeB S) = zeroBx := by
 have h2 : meetB zeroBx (cubeB S) = zeroBx := by
  unfold meetB cubeB zeroBx
  simp only [Bx.mk.injEq, Pt.mk.injEq]
  omega
 unfold interB
 rw [h2]
 rfl
theorem cd_in {p : Pt} {b : Bx} (h : inP p b = true) {k : Int} (_hk : 0 ≤ k ∧ k < 3) : cdP b.lo k ≤ cdP p k ∧ cdP p k < cdP b.hi k := by
 rw [inP_iff] at h
 unfold cdP
 split
 · omega
 · split <;> omega
theorem cd_r {t : Int} (ht : isT t = true) (q : Pt) {k : Int} (hk : 0 ≤ k ∧ k < 3) : cdP (rturnP t 1 q) k = rtI t 1 q k := by
 unfold rturnP
 rw [ht, if_pos rfl]
 rcases (show k = 0 ∨ k = 1 ∨ k = 2 by omega) with h | h | h <;> subst h <;> rfl
def smlQ (a : Int) : Prop := -3000000 ≤ a ∧ a ≤ 3000000
theorem cd_sml {p : Pt} (h : smlP p) (k : Int) : -1000000 ≤ cdP p k ∧ cdP p k ≤ 1000000 := by
 unfold smlP at h
 unfold cdP
 split
 · omega
 · split <;> omega
theorem back_cd {s : Int} (hs : 0 ≤ s ∧ s < 48) {b : Bx} (hb : smlB b) (hlt : b.lo.x < b.hi.x ∧ b.lo.y < b.hi.y ∧ b.lo.z < b.hi.z) {q : Pt} (hq : smlQ q.x ∧ smlQ q.y ∧ smlQ q.z)
    (h : inP (rturnP (invI s) 1 q) b = true) {j : Int} (hj : 0 ≤ j ∧ j < 3) : min (tcI s b.lo j) (tcI s b.hi j) ≤ cdP q j ∧ cdP q j < max (tcI s b.lo j) (tcI s b.hi j) := by
 have ha := axI_in s j hs hj
 have h1 := cd_in h (k := axI s j) (by omega)
 have hit : isT (invI s) = true := by unfold isT; rw [decide_eq_true (invI_rng hs)]
 rw [cd_r hit q (by omega)] at h1
 have hr := invI_rel hs hj
 unfold rtI at h1
 rw [hr.1, hr.2] at h1
 have hl := cd_sml hb.1 (axI s j)
 have hh := cd_sml hb.2 (axI s j)
 have hlh : cdP b.lo (axI s j) < cdP b.hi (axI s j) := by
  unfold cdP
  split
  · omega
  · split <;> omega
 have hqq : -3000000 ≤ cdP q j ∧ cdP q j ≤ 3000000 := by
  unfold smlQ at hq
  unfold cdP
  split
  · omega
  · split <;> omega
 unfold tcI
 generalize cdP b.lo (axI s j) = u at *
 generalize cdP b.hi (axI s j) = v at *
 generalize cdP q j = z at *
 cases hn : ngI s j
 · rw [hn] at h1
   simp only [Bool.false_eq_true, if_false] at h1 ⊢
   omega
 · rw [hn] at h1
   simp only [if_true] at h1 ⊢
   unfold wrap64 at h1 ⊢
   omega
theorem turnB_def {s : Int} {b : Bx} (hs : isT s = true) (he : emptyB b = false) : turnB s b = ⟨⟨min (tcI s b.lo 0) (tcI s b.hi 0), min (tcI s b.lo 1) (tcI s b.hi 1), min (tcI s b.lo 2) (tcI s b.hi 2)⟩, ⟨max (tcI s b.lo 0) (tcI s b.hi 0), max (tcI s b.lo 1) (tcI s b.hi 1), max (tcI s b.lo 2) (tcI s b.hi 2)⟩⟩ := by
 have d2 : ∀ p, turnP s p = ⟨tcI s p 0, tcI s p 1, tcI s p 2⟩ := fun p => by unfold turnP; rw [hs]; rfl
 unfold turnB
 rw [hs, he, if_pos rfl, if_neg (by decide)]
 simp only [d2]
theorem copy_in {s : Int} (hs : 0 ≤ s ∧ s < 48) {b : Bx} (he : emptyB b = false) (hb : smlB b) {a p : Pt} (ha : tinyP a) (hp : tinyP p)
    (h : inP (rturnP (invI s) 1 (addP (subP p a) (turnB s b).lo)) b = true) : inP p ⟨a, addP a (subP (turnB s b).hi (turnB s b).lo)⟩ = true := by
 have hit : isT s = true := by unfold isT; rw [decide_eq_true hs]
 have hsm := (turnB_ne hit he hb).2
 have hlt := notEmpty he
 have hq : smlQ (addP (subP p a) (turnB s b).lo).x ∧ smlQ (addP (subP p a) (turnB s b).lo).y ∧ smlQ (addP (subP p a) (turnB s b).lo).z := by
  generalize (turnB s b) = c at hsm ⊢
  unfold smlB smlP at hsm
  unfold tinyP at ha hp
  unfold addP subP wrap64 smlQ
  simp only
  omega
 have h0 := back_cd hs hb hlt hq h (j := 0) (by decide)
 have h1 := back_cd hs hb hlt hq h (j := 1) (by decide)
 have h2 := back_cd hs hb hlt hq h (j := 2) (by decide)
 have e := turnB_def hit he
 obtain ⟨⟨⟨l0, l1, l2⟩, ⟨u0, u1, u2⟩⟩, hc⟩ : ∃ c, turnB s b = c := ⟨_, rfl⟩
 rw [hc] at h0 h1 h2 hsm e ⊢
 simp only [Bx.mk.injEq, Pt.mk.injEq] at e
 obtain ⟨⟨e0, e1, e2⟩, e3, e4, e5⟩ := e
 rw [← e0, ← e3] at h0
 rw [← e1, ← e4] at h1
 rw [← e2, ← e5] at h2
 rw [inP_iff]
 clear e0 e1 e2 e3 e4 e5 hc hq h
 unfold smlB smlP at hsm
 unfold tinyP at ha hp
 unfold addP subP cdP wrap64 at *
 simp only [if_pos, show ¬ (1 : Int) = 0 by decide, show ¬ (2 : Int) = 0 by decide, show ¬ (2 : Int) = 1 by decide, if_false] at *
 omega
theorem ball_in {a p : Pt} {n : Int} (ha : tinyP a) (hp : tinyP p) (h : ballQ a n p = true) : inP p (ballBx a n) = true := by
 unfold ballQ at h
 rw [Bool.and_eq_true] at h
 obtain ⟨h1, h2⟩ := h
 unfold isS at h1
 rw [decide_eq_true_eq] at h1 h2
 have hd := subP_sml ha hp
 have q1 := sq_rng hd.1
 have q2 := sq_rng hd.2.1
 have q3 := sq_rng hd.2.2
 have k1 := sq_le (a := (subP p a).x) (n := n) (by omega) (by omega)
 have k2 := sq_le (a := (subP p a).y) (n := n) (by omega) (by omega)
 have k3 := sq_le (a := (subP p a).z) (n := n) (by omega) (by omega)
 have e : ballBx a n = ⟨subP a ⟨n / 2, n / 2, n / 2⟩, addP a ⟨n / 2 + 1, n / 2 + 1, n / 2 + 1⟩⟩ := by
  unfold ballBx
  rw [if_pos h1, around_sub]
 rw [e, inP_iff]
 clear e h2 q1 q2 q3 hd
 unfold tinyP at ha hp
 unfold subP addP wrap64 at *
 simp only at *
 omega
theorem inCube_tiny {p : Pt} {d : Int} (hd : 2 ≤ d ∧ d ≤ 14) (h : inP p (cubeB (2 ^ d.toNat)) = true) : tinyP p := by
 have hw := pow_le14 d hd
 generalize (2 : Int) ^ d.toNat = S at h hw
 rw [inP_iff] at h
 unfold cubeB at h
 unfold tinyP
 simp only at h
 omega
theorem changed_in {x : Ed} {d : Int} (h : ChkOk x d 256) {p : Pt} (hp : inP p (cubeD d) = true) (hc : changedE x p = true) : inP p (boundsE x d) = true := by
 have hd := h.hd
 have hpw := pow_le14 d hd
 have hpt := inCube_tiny hd hp
 refine in_inter ?_ hp
 obtain ⟨k, hk⟩ : ∃ k, x.kind = k := ⟨_, rfl⟩
 have hkr := h.kind
 unfold changedE at hc
 unfold rawB
 rw [hk] at hc hkr ⊢
 rcases (show k = 1 ∨ k = 2 ∨ k = 3 ∨ k = 4 ∨ k = 5 ∨ k = 6 ∨ k = 7 ∨ k = 8 by omega) with e | e | e | e | e | e | e | e <;> subst e
 · exact hc
 · exact ball_in (inCube_tiny hd (h.at_ (by rw [hk]; rfl))) hpt hc
 · have h1 : prismR x.box x.turn p = true := hc
   unfold prismR at h1
   rw [Bool.and_eq_true] at h1
   exact h1.1
 · have hb := h.box (by rw [hk]; rfl)
   have ht := h.turn
   unfold isT at ht
   rw [decide_eq_true_eq] at ht
   exact copy_in ht hb.empty (hb.sml hpw.2) (inCube_tiny hd (h.at_ (by rw [hk]; rfl))) hpt hc
 · have h1 : decide (p = x.at_) = true := hc
   rw [decide_eq_true_eq] at h1
   subst h1
   have hz := h.fill hk
   show inP x.at_ (⟨subP x.at_ ⟨x.size - 1, x.size - 1, x.size - 1⟩, addP x.at_ ⟨x.size, x.size, x.size⟩⟩ : Bx) = true
   rw [inP_iff]
   unfold tinyP at hpt
   unfold subP addP wrap64
   simp only
   omega
 · cases hc
 · cases hc
 · cases hc
theorem bounds_none {x : Ed} {d : Int} (h : ChkOk x d 256) (hk : ¬ x.kind = 1 ∧ ¬ x.kind = 2 ∧ ¬ x.kind = 3 ∧ ¬ x.kind = 4 ∧ ¬ x.kind = 5) : boundsE x d = zeroBx := by
 have hpw := pow_le14 d h.hd
 unfold boundsE rawB
 rw [if_neg (by omega), if_neg (by omega), if_neg (by omega), if_neg (by omega)]
 exact zero_inter _ (by omega)
theorem bounds_cube {x : Ed} {d : Int} (h : ChkOk x d 256) : interB (cubeD d) (boundsE x d) = boundsE x d := by
 have hpw := pow_le14 d h.hd
 exact cube_holds _ _ (by omega)
end Go.Proofs.YtlinhgannajfpaaGreatDoor

/- A comparison of two structs in a plain walk, by its run. -/
namespace Go.Proofs.YtlinhgannajfpaaGreatDoor
open Go Go.RowKit

theorem wpList_cmp {P : Program} {ops : Array Oper} {rest : List Oper} {o : Oper} {a : Act} {w : World} {Q : Exit → Act → World → Prop} (k : BinOp) (ty : TypeId) (x y : Operand) (t2 : TypeId) (ho : o.op = .binOp k ty x y t2) (hw : Region.wanted o (yielded ops a.tmps) = true)
    (v1 v2 : Array Value) (v : Value) (hx : a.eval x = .agg v1) (hy : a.eval y = .agg v2) (hm : P.eqGuardType P.depth ty = false) (hr : ∀ w, (binOp k ty (.agg v1) (.agg v2)).run P w = .ok v w) (h : wpList P ops Q rest (a.put o.dst v) w) : wpList P ops Q (o :: rest) a w := by
 refine wpList_step fun K hK => ?_
 rw [if_pos hw]
 refine op_run (v := v) (w2 := w) ?_ (hK _ _ h)
 unfold execOp
 simp [ho, hx, hy, run_eqGuard_agg, hm, hr]
theorem wpList_cmp_d {P : Program} {ops : Array Oper} {rest : List Oper} {o : Oper} {a : Act} {w : World} {Q : Exit → Act → World → Prop} (d : Nat) (_hd : o.dst = some d) (k : BinOp) (ty : TypeId) (x y : Operand) (t2 : TypeId) (ho : o.op = .binOp k ty x y t2) (hw : Region.wanted o (yielded ops a.tmps) = true)
    (v1 v2 : Array Value) (v : Value) (hx : a.eval x = .agg v1) (hy : a.eval y = .agg v2) (hm : P.eqGuardType P.depth ty = false) (hr : ∀ w, (binOp k ty (.agg v1) (.agg v2)).run P w = .ok v w) (h : wpList P ops Q rest (a.put o.dst v) w) : wpList P ops Q (o :: rest) a w :=
 wpList_cmp k ty x y t2 ho hw v1 v2 v hx hy hm hr h
theorem wpList_load_blk_d {P : Program} {ops : Array Oper} {rest : List Oper} {o : Oper} {a : Act} {w : World} {Q : Exit → Act → World → Prop} (d : Nat) (_hd : o.dst = some d) (ty : TypeId) (x : Operand) (ho : o.op = .load ty x) (hw : Region.wanted o (yielded ops a.tmps) = true)
    {b : Nat} {t : TypeId} {vs : List Value} (hB : Arr w b t vs) (hx : a.eval x = .pointer (some ⟨b, 0, none⟩)) (d : TypeDesc) (hu : P.underlying ty = some d)
    (hd : (match d with | .struct _ | .array _ _ => true | _ => false) = true) (hi : (P.info? ty).map (·.size) = some vs.length) (h : wpList P ops Q rest (a.put o.dst (.agg vs.toArray)) w) : wpList P ops Q (o :: rest) a w :=
 wpList_load_blk ty x ho hw hB hx d hu hd hi h
end Go.Proofs.YtlinhgannajfpaaGreatDoor

/- EditBounds. -/
namespace Go.Proofs.YtlinhgannajfpaaGreatDoor
open Go Go.RowKit

theorem neqBx0_run (b : Bx) (h : b = zeroBx) (w : World) : (binOp .neq 27 (.agg #[.int .i64 b.lo.x, .int .i64 b.lo.y, .int .i64 b.lo.z, .int .i64 b.hi.x, .int .i64 b.hi.y, .int .i64 b.hi.z]) (.agg #[.int .i64 zeroBx.lo.x, .int .i64 zeroBx.lo.y, .int .i64 zeroBx.lo.z, .int .i64 zeroBx.hi.x, .int .i64 zeroBx.hi.y, .int .i64 zeroBx.hi.z])).run Tryz.prog w = .ok (.bool false) w := by
 subst h
 simp [go_sem, zeroBx]

set_option maxRecDepth 100000 in
set_option maxHeartbeats 8000000 in
theorem EditBounds_any (x : Ed) (hfx : fits x) (d : Int) (p : Pt) (w : World) (hR : EnvI w) : Calls Tryz.prog 9 #[.agg #[.int .i64 x.st.tick, .int .i64 x.st.clock, .int .i64 x.st.site, .int .i64 x.st.seq, .int .i64 x.kind, .int .i64 x.box.lo.x, .int .i64 x.box.lo.y, .int .i64 x.box.lo.z, .int .i64 x.box.hi.x, .int .i64 x.box.hi.y, .int .i64 x.box.hi.z, .int .i64 x.at_.x, .int .i64 x.at_.y, .int .i64 x.at_.z, .int .i64 x.turn, .int .i64 x.cell, .int .i64 x.size], .int .i64 d, .agg #[.int .i64 p.x, .int .i64 p.y, .int .i64 p.z]] w fun e w' => e = .returned (.bool true) ∧ Ext w w' := by
 have hm := mixed
 have hG := near_old
 have HR := Lib.hid hR
 obtain ⟨ck, hck⟩ : ∃ ck, checkE x d 256 = ck := ⟨_, rfl⟩
 obtain ⟨q, hq⟩ : ∃ q, inP p (cubeD d) = q := ⟨_, rfl⟩
 have HC := Lib.hid (fun (W : World) (hx : Ext w W) => k_chk x d 256 ck hck W (HR.out.ext hx))
 clear hR
 have hcs : 6 < d ∨ (d ≤ 6 ∧ ¬ ck = 0) ∨ ((d ≤ 6 ∧ ck = 0) ∧ q = false) ∨ ((d ≤ 6 ∧ ck = 0) ∧ q = true ∧ (x.kind = 1 ∨ x.kind = 2 ∨ x.kind = 3 ∨ x.kind = 4 ∨ x.kind = 5 ∨ (¬ x.kind = 1 ∧ ¬ x.kind = 2 ∧ ¬ x.kind = 3 ∧ ¬ x.kind = 4 ∧ ¬ x.kind = 5))) := by
  cases q
  · simp; omega
  · simp; omega
 obtain ⟨W0, hW⟩ : ∃ W, W = (w.alloc (.cells #[.int .i64 x.st.tick, .int .i64 x.st.clock, .int .i64 x.st.site, .int .i64 x.st.seq, .int .i64 x.kind, .int .i64 x.box.lo.x, .int .i64 x.box.lo.y, .int .i64 x.box.lo.z, .int .i64 x.box.hi.x, .int .i64 x.box.hi.y, .int .i64 x.box.hi.z, .int .i64 x.at_.x, .int .i64 x.at_.y, .int .i64 x.at_.z, .int .i64 x.turn, .int .i64 x.cell, .int .i64 x.size] 29)).alloc (.cells #[.int .i64 p.x, .int .i64 p.y, .int .i64 p.z] 25) := ⟨_, rfl⟩
 have HX := Lib.hid (show Ext w W0 by rw [hW]; exact ((Ext.refl w).alloc _).alloc _)
 have H3 := Lib.hid (show Arr W0 w.heap.size 29 [.int .i64 x.st.tick, .int .i64 x.st.clock, .int .i64 x.st.site, .int .i64 x.st.seq, .int .i64 x.kind, .int .i64 x.box.lo.x, .int .i64 x.box.lo.y, .int .i64 x.box.lo.z, .int .i64 x.box.hi.x, .int .i64 x.box.hi.y, .int .i64 x.box.hi.z, .int .i64 x.at_.x, .int .i64 x.at_.y, .int .i64 x.at_.z, .int .i64 x.turn, .int .i64 x.cell, .int .i64 x.size] by rw [hW]; exact (Arr.new w 29 [.int .i64 x.st.tick, .int .i64 x.st.clock, .int .i64 x.st.site, .int .i64 x.st.seq, .int .i64 x.kind, .int .i64 x.box.lo.x, .int .i64 x.box.lo.y, .int .i64 x.box.lo.z, .int .i64 x.box.hi.x, .int .i64 x.box.hi.y, .int .i64 x.box.hi.z, .int .i64 x.at_.x, .int .i64 x.at_.y, .int .i64 x.at_.z, .int .i64 x.turn, .int .i64 x.cell, .int .i64 x.size]).alloc _)
 have H5 := Lib.hid (show Arr W0 (w.heap.size + 1) 25 [.int .i64 p.x, .int .i64 p.y, .int .i64 p.z] by rw [hW]; have h := Arr.new (w.alloc (.cells #[.int .i64 x.st.tick, .int .i64 x.st.clock, .int .i64 x.st.site, .int .i64 x.st.seq, .int .i64 x.kind, .int .i64 x.box.lo.x, .int .i64 x.box.lo.y, .int .i64 x.box.lo.z, .int .i64 x.box.hi.x, .int .i64 x.box.hi.y, .int .i64 x.box.hi.z, .int .i64 x.at_.x, .int .i64 x.at_.y, .int .i64 x.at_.z, .int .i64 x.turn, .int .i64 x.cell, .int .i64 x.size] 29)) 25 [.int .i64 p.x, .int .i64 p.y, .int .i64 p.z]; simp only [World.size_alloc_] at h; exact h)
 rcases hcs with h | ⟨h6, h⟩ | ⟨⟨h6, h0⟩, h⟩ | ⟨⟨h6, h0⟩, hq1, hk⟩
 · clear hck hq
   go_enter Tryz.func9, Tryz.ntmps9
   go_upto_region 1 with fail
   rw [← hW]
   clear hW
   refine wp_region_val [some (.int .i64 d), some (.bool true), some (.bool true), some (undef), some (undef), some (undef), some (undef), some (.bool true), some (.bool true), some (undef), some (undef), some (undef), some (undef), some (undef), some (undef), some (.bool true)] hm (by kernel_rfl) (by kernel_rfl) rfl ?_ ?_ rfl rfl
   · refine c_ s_mv ?_
     refine c_ (s_run1 10 (hr := fun b w1 _ e => by unfold execOp; simp [e, Act.eval, go_sem, h])) ?_
     refine c_ s_mv ?_
     refine c_ s_no ?_
     refine c_ s_no ?_
     refine c_ s_no ?_
     refine c_ s_no ?_
     refine c_ (s_run2 12 16 (hr := fun b w1 _ e f => by unfold execOp; simp [e, f, Act.eval, go_sem])) ?_
     refine c_ s_mv ?_
     refine c_ s_no ?_
     refine c_ s_no ?_
     refine c_ s_no ?_
     refine c_ s_no ?_
     refine c_ s_no ?_
     refine c_ s_no ?_
     refine c_ (s_run2 18 24 (hr := fun b w1 _ e f => by unfold execOp; simp [e, f, Act.eval, go_sem])) ?_
     exact trivial
   intro w9 hx
   simp only [fillM, Act.put, List.getElem?_cons_zero, List.getElem?_cons_succ, Option.join_some, Option.getD_some, List.setIfInBounds_toArray, List.set_cons_zero, List.set_cons_succ, Nat.zero_add, Nat.reduceAdd]
   replace HX := Lib.hid (HX.out.trans hx); replace H3 := Lib.hid (H3.out.ext hx); replace H5 := Lib.hid (H5.out.ext hx)
   clear hx
   go_wp2_with (first
    | (go_at_call 10; refine (sanity_any _ (HR.out.ext HX.out)).mono ?_; rintro e W1 ⟨rfl, hx⟩; replace HX := xEx HX hx; replace H3 := aEx H3 hx; replace H5 := aEx H5 hx; clear hx))
   go_ret
   exact ⟨rfl, HX.out⟩

 · have h6n : ¬ 6 < d := by omega
   clear hck hq h6
   go_enter Tryz.func9, Tryz.ntmps9
   go_upto_region 1 with fail
   rw [← hW]
   clear hW
   refine wp_region_val [some (.int .i64 d), some (.bool false), some (.bool false), some (.agg #[.int .i64 x.st.tick, .int .i64 x.st.clock, .int .i64 x.st.site, .int .i64 x.st.seq, .int .i64 x.kind, .int .i64 x.box.lo.x, .int .i64 x.box.lo.y, .int .i64 x.box.lo.z, .int .i64 x.box.hi.x, .int .i64 x.box.hi.y, .int .i64 x.box.hi.z, .int .i64 x.at_.x, .int .i64 x.at_.y, .int .i64 x.at_.z, .int .i64 x.turn, .int .i64 x.cell, .int .i64 x.size]), some (.int .i64 d), some (.int .i64 ck), some (.bool true), some (.bool true), some (.bool true), some (undef), some (undef), some (undef), some (undef), some (undef), some (undef), some (.bool true)] hm (by kernel_rfl) (by kernel_rfl) rfl ?_ ?_ rfl rfl
   · refine c_ s_mv ?_
     refine c_ (s_run1 10 (hr := fun b w1 _ e => by unfold execOp; simp [e, Act.eval, go_sem, h6n])) ?_
     refine c_ s_mv ?_
     refine c_ (s_row H3 Tryz.underlying29) ?_
     refine c_ s_mv ?_
     refine c_ (s_call fun w1 hx => HC.out w1 (HX.out.trans hx)) ?_
     refine c_ (s_run1 15 (hr := fun b w1 _ e => by unfold execOp; simp [e, Act.eval, go_sem, h])) ?_
     refine c_ (s_run2 12 16 (hr := fun b w1 _ e f => by unfold execOp; simp [e, f, Act.eval, go_sem])) ?_
     refine c_ s_mv ?_
     refine c_ s_no ?_
     refine c_ s_no ?_
     refine c_ s_no ?_
     refine c_ s_no ?_
     refine c_ s_no ?_
     refine c_ s_no ?_
     refine c_ (s_run2 18 24 (hr := fun b w1 _ e f => by unfold execOp; simp [e, f, Act.eval, go_sem])) ?_
     exact trivial
   intro w9 hx
   simp only [fillM, Act.put, List.getElem?_cons_zero, List.getElem?_cons_succ, Option.join_some, Option.getD_some, List.setIfInBounds_toArray, List.set_cons_zero, List.set_cons_succ, Nat.zero_add, Nat.reduceAdd]
   replace HX := Lib.hid (HX.out.trans hx); replace H3 := Lib.hid (H3.out.ext hx); replace H5 := Lib.hid (H5.out.ext hx)
   clear hx
   go_wp2_with (first
    | (go_at_call 10; refine (sanity_any _ (HR.out.ext HX.out)).mono ?_; rintro e W1 ⟨rfl, hx⟩; replace HX := xEx HX hx; replace H3 := aEx H3 hx; replace H5 := aEx H5 hx; clear hx))
   go_ret
   exact ⟨rfl, HX.out⟩

 · have h6n : ¬ 6 < d := by omega
   have hco : ChkOk x d 256 := chk_ok hfx (hck.trans h0)
   subst h0
   have hd := hco.hd
   have hsh := shl_run d hd
   clear h6 hck hco hd
   rw [h] at hq
   unfold cubeD at hq
   obtain ⟨S, hS⟩ : ∃ S : Int, (2 : Int) ^ d.toNat = S := ⟨_, rfl⟩
   rw [hS] at hsh hq
   clear hS
   have HCU := Lib.hid (show ∀ W : World, Calls Tryz.prog 33 #[.int .i64 S] W fun e w' => e = .returned (.agg #[.int .i64 (cubeB S).lo.x, .int .i64 (cubeB S).lo.y, .int .i64 (cubeB S).lo.z, .int .i64 (cubeB S).hi.x, .int .i64 (cubeB S).hi.y, .int .i64 (cubeB S).hi.z]) ∧ Ext W w' from refCube_any S)
   have HIN := Lib.hid (show ∀ W : World, Calls Tryz.prog 32 #[.agg #[.int .i64 p.x, .int .i64 p.y, .int .i64 p.z], .agg #[.int .i64 (cubeB S).lo.x, .int .i64 (cubeB S).lo.y, .int .i64 (cubeB S).lo.z, .int .i64 (cubeB S).hi.x, .int .i64 (cubeB S).hi.y, .int .i64 (cubeB S).hi.z]] W fun e w' => e = .returned (.bool false) ∧ Ext W w' by intro W; have h := refIn_any p (cubeB S) W; rw [hq] at h; exact h)
   clear hq h
   go_enter Tryz.func9, Tryz.ntmps9
   go_upto_region 1 with fail
   rw [← hW]
   clear hW
   refine wp_region_val [some (.int .i64 d), some (.bool false), some (.bool false), some (.agg #[.int .i64 x.st.tick, .int .i64 x.st.clock, .int .i64 x.st.site, .int .i64 x.st.seq, .int .i64 x.kind, .int .i64 x.box.lo.x, .int .i64 x.box.lo.y, .int .i64 x.box.lo.z, .int .i64 x.box.hi.x, .int .i64 x.box.hi.y, .int .i64 x.box.hi.z, .int .i64 x.at_.x, .int .i64 x.at_.y, .int .i64 x.at_.z, .int .i64 x.turn, .int .i64 x.cell, .int .i64 x.size]), some (.int .i64 d), some (.int .i64 0), some (.bool false), some (.bool false), some (.bool false), some (.agg #[.int .i64 p.x, .int .i64 p.y, .int .i64 p.z]), some (.int .i64 d), some (.int .i64 S), some (.agg #[.int .i64 (cubeB S).lo.x, .int .i64 (cubeB S).lo.y, .int .i64 (cubeB S).lo.z, .int .i64 (cubeB S).hi.x, .int .i64 (cubeB S).hi.y, .int .i64 (cubeB S).hi.z]), some (.bool false), some (.bool true), some (.bool true)] hm (by kernel_rfl) (by kernel_rfl) rfl ?_ ?_ rfl rfl
   · refine c_ s_mv ?_
     refine c_ (s_run1 10 (hr := fun b w1 _ e => by unfold execOp; simp [e, Act.eval, go_sem, h6n])) ?_
     refine c_ s_mv ?_
     refine c_ (s_row H3 Tryz.underlying29) ?_
     refine c_ s_mv ?_
     refine c_ (s_call fun w1 hx => HC.out w1 (HX.out.trans hx)) ?_
     refine c_ (s_run1 15 (hr := fun b w1 _ e => by unfold execOp; simp [e, Act.eval, go_sem])) ?_
     refine c_ (s_run2 12 16 (hr := fun b w1 _ e f => by unfold execOp; simp [e, f, Act.eval, go_sem])) ?_
     refine c_ s_mv ?_
     refine c_ (s_row H5 Tryz.underlying25) ?_
     refine c_ s_mv ?_
     refine c_ (s_run1 20 (hr := fun b w1 _ e => by unfold execOp; simp [e, Act.eval, go_sem, hsh])) ?_
     refine c_ (s_call fun w1 hx => HCU.out w1) ?_
     refine c_ (s_call fun w1 hx => HIN.out w1) ?_
     refine c_ (s_run1 23 (hr := fun b w1 _ e => by unfold execOp; simp [e, Act.eval, go_sem])) ?_
     refine c_ (s_run2 18 24 (hr := fun b w1 _ e f => by unfold execOp; simp [e, f, Act.eval, go_sem])) ?_
     exact trivial
   intro w9 hx
   simp only [fillM, Act.put, List.getElem?_cons_zero, List.getElem?_cons_succ, Option.join_some, Option.getD_some, List.setIfInBounds_toArray, List.set_cons_zero, List.set_cons_succ, Nat.zero_add, Nat.reduceAdd]
   replace HX := Lib.hid (HX.out.trans hx); replace H3 := Lib.hid (H3.out.ext hx); replace H5 := Lib.hid (H5.out.ext hx)
   clear hx
   go_wp2_with (first
    | (go_at_call 10; refine (sanity_any _ (HR.out.ext HX.out)).mono ?_; rintro e W1 ⟨rfl, hx⟩; replace HX := xEx HX hx; replace H3 := aEx H3 hx; replace H5 := aEx H5 hx; clear hx))
   go_ret
   exact ⟨rfl, HX.out⟩

 · have h6n : ¬ 6 < d := by omega
   have hco : ChkOk x d 256 := chk_ok hfx (hck.trans h0)
   subst h0
   have hd := hco.hd
   have hsh := shl_run d hd
   rw [hq1] at hq
   have hin := changed_in hco hq
   have hcb := bounds_cube hco
   have HB := Lib.hid (fun (W : World) (hx : Ext w W) => Bounds_any x d hco W (HR.out.ext hx).A)
   have hqq := hq
   clear hck
   obtain ⟨rb, hbb⟩ : ∃ rb, boundsE x d = rb := ⟨_, rfl⟩
   rw [hbb] at HB hin hcb
   unfold cubeD at hq hcb
   obtain ⟨S, hS⟩ : ∃ S : Int, (2 : Int) ^ d.toNat = S := ⟨_, rfl⟩
   rw [hS] at hsh hq hcb
   clear hS
   have HCU := Lib.hid (show ∀ W : World, Calls Tryz.prog 33 #[.int .i64 S] W fun e w' => e = .returned (.agg #[.int .i64 (cubeB S).lo.x, .int .i64 (cubeB S).lo.y, .int .i64 (cubeB S).lo.z, .int .i64 (cubeB S).hi.x, .int .i64 (cubeB S).hi.y, .int .i64 (cubeB S).hi.z]) ∧ Ext W w' from refCube_any S)
   have HIN := Lib.hid (show ∀ W : World, Calls Tryz.prog 32 #[.agg #[.int .i64 p.x, .int .i64 p.y, .int .i64 p.z], .agg #[.int .i64 (cubeB S).lo.x, .int .i64 (cubeB S).lo.y, .int .i64 (cubeB S).lo.z, .int .i64 (cubeB S).hi.x, .int .i64 (cubeB S).hi.y, .int .i64 (cubeB S).hi.z]] W fun e w' => e = .returned (.bool true) ∧ Ext W w' by intro W; have h := refIn_any p (cubeB S) W; rw [hq] at h; exact h)
   have HCT := Lib.hid (show ∀ W : World, Calls Tryz.prog 41 #[.agg #[.int .i64 (cubeB S).lo.x, .int .i64 (cubeB S).lo.y, .int .i64 (cubeB S).lo.z, .int .i64 (cubeB S).hi.x, .int .i64 (cubeB S).hi.y, .int .i64 (cubeB S).hi.z], .agg #[.int .i64 rb.lo.x, .int .i64 rb.lo.y, .int .i64 rb.lo.z, .int .i64 rb.hi.x, .int .i64 rb.hi.y, .int .i64 rb.hi.z]] W fun e w' => e = .returned (.bool true) ∧ Ext W w' by intro W; have h := refContains_any (cubeB S) rb W; rw [hcb, decide_eq_true rfl] at h; exact h)
   clear hcb hq hq1 h6 hd
   replace hqq := Lib.hid hqq
   replace hin := Lib.hid hin
   replace hbb := Lib.hid hbb
   replace hk := Lib.hid hk
   go_enter Tryz.func9, Tryz.ntmps9
   go_upto_region 1 with fail
   rw [← hW]
   clear hW
   refine wp_region_val [some (.int .i64 d), some (.bool false), some (.bool false), some (.agg #[.int .i64 x.st.tick, .int .i64 x.st.clock, .int .i64 x.st.site, .int .i64 x.st.seq, .int .i64 x.kind, .int .i64 x.box.lo.x, .int .i64 x.box.lo.y, .int .i64 x.box.lo.z, .int .i64 x.box.hi.x, .int .i64 x.box.hi.y, .int .i64 x.box.hi.z, .int .i64 x.at_.x, .int .i64 x.at_.y, .int .i64 x.at_.z, .int .i64 x.turn, .int .i64 x.cell, .int .i64 x.size]), some (.int .i64 d), some (.int .i64 0), some (.bool false), some (.bool false), some (.bool false), some (.agg #[.int .i64 p.x, .int .i64 p.y, .int .i64 p.z]), some (.int .i64 d), some (.int .i64 S), some (.agg #[.int .i64 (cubeB S).lo.x, .int .i64 (cubeB S).lo.y, .int .i64 (cubeB S).lo.z, .int .i64 (cubeB S).hi.x, .int .i64 (cubeB S).hi.y, .int .i64 (cubeB S).hi.z]), some (.bool true), some (.bool false), some (.bool false)] hm (by kernel_rfl) (by kernel_rfl) rfl ?_ ?_ rfl rfl
   · refine c_ s_mv ?_
     refine c_ (s_run1 10 (hr := fun b w1 _ e => by unfold execOp; simp [e, Act.eval, go_sem, h6n])) ?_
     refine c_ s_mv ?_
     refine c_ (s_row H3 Tryz.underlying29) ?_
     refine c_ s_mv ?_
     refine c_ (s_call fun w1 hx => HC.out w1 (HX.out.trans hx)) ?_
     refine c_ (s_run1 15 (hr := fun b w1 _ e => by unfold execOp; simp [e, Act.eval, go_sem])) ?_
     refine c_ (s_run2 12 16 (hr := fun b w1 _ e f => by unfold execOp; simp [e, f, Act.eval, go_sem])) ?_
     refine c_ s_mv ?_
     refine c_ (s_row H5 Tryz.underlying25) ?_
     refine c_ s_mv ?_
     refine c_ (s_run1 20 (hr := fun b w1 _ e => by unfold execOp; simp [e, Act.eval, go_sem, hsh])) ?_
     refine c_ (s_call fun w1 hx => HCU.out w1) ?_
     refine c_ (s_call fun w1 hx => HIN.out w1) ?_
     refine c_ (s_run1 23 (hr := fun b w1 _ e => by unfold execOp; simp [e, Act.eval, go_sem])) ?_
     refine c_ (s_run2 18 24 (hr := fun b w1 _ e f => by unfold execOp; simp [e, f, Act.eval, go_sem])) ?_
     exact trivial
   intro w9 hx
   simp only [fillM, Act.put, List.getElem?_cons_zero, List.getElem?_cons_succ, Option.join_some, Option.getD_some, List.setIfInBounds_toArray, List.set_cons_zero, List.set_cons_succ, Nat.zero_add, Nat.reduceAdd]
   replace HX := Lib.hid (HX.out.trans hx); replace H3 := Lib.hid (H3.out.ext hx); replace H5 := Lib.hid (H5.out.ext hx)
   clear hx
   go_upto_region 4 with (first
    | (refine ldB 29 3 H3.out Tryz.underlying29 ?_) | (refine ldB 29 3 (H3.out.alloc _) Tryz.underlying29 ?_) | (refine ldB 29 3 ((H3.out.alloc _).alloc _) Tryz.underlying29 ?_)
    | (go_at_call 15; refine (HB.out _ HX.out).mono ?_; rintro e W1 ⟨rfl, hx⟩; replace HX := xEx HX hx; replace H3 := aEx H3 hx; replace H5 := aEx H5 hx; clear hx)
    | (refine wpList_store_blk2 27 (.tmp 7) (.tmp 29) rfl rfl (Arr.new W1 27 [.int .i64 0, .int .i64 0, .int .i64 0, .int .i64 0, .int .i64 0, .int .i64 0]) [.int .i64 rb.lo.x, .int .i64 rb.lo.y, .int .i64 rb.lo.z, .int .i64 rb.hi.x, .int .i64 rb.hi.y, .int .i64 rb.hi.z] rfl rfl (by kernel_rfl) rfl rfl rfl ?_; intro W2 hW; have Q3_7 := aLt H3; have Q5_7 := aLt H5; have Qw_7 := Lib.hid HX.out.size; replace HX := xNew HX hW; replace H3 := aNew H3 hW; replace H5 := aNew H5 hW; have H7 := nNew hW; clear hW))
   obtain ⟨b7, hb7⟩ : ∃ n, n = W1.heap.size := ⟨_, rfl⟩
   rw [← hb7] at H7 Q3_7 Q5_7 Qw_7 ⊢
   clear hb7
   go_upto_region 5 with fail
   have c3 := H3.out.cell; have l3 := H3.out.lt
   go_upto_region 8 with fail
   clear c3 l3
   rcases hk.out with hk | hk | hk | hk | hk | hk
   focus
    have hqq := hqq.out
    have hin := hin.out
    obtain ⟨ch, hch⟩ : ∃ ch, changedE x p = ch := ⟨_, rfl⟩
    rw [hch] at hin
    have hd2 : changedE x p = inP p x.box := by unfold changedE; rw [hk]; rfl
    have HCH := Lib.hid (show ∀ W : World, Calls Tryz.prog 32 #[.agg #[.int .i64 p.x, .int .i64 p.y, .int .i64 p.z], .agg #[.int .i64 x.box.lo.x, .int .i64 x.box.lo.y, .int .i64 x.box.lo.z, .int .i64 x.box.hi.x, .int .i64 x.box.hi.y, .int .i64 x.box.hi.z]] W fun e w' => e = .returned (.bool ch) ∧ Ext W w' by rw [← hch, hd2]; exact refIn_any p x.box)
    clear hd2
    have HIB := Lib.hid (fun (h : ch = true) => (show ∀ W : World, Calls Tryz.prog 32 #[.agg #[.int .i64 p.x, .int .i64 p.y, .int .i64 p.z], .agg #[.int .i64 rb.lo.x, .int .i64 rb.lo.y, .int .i64 rb.lo.z, .int .i64 rb.hi.x, .int .i64 rb.hi.y, .int .i64 rb.hi.z]] W fun e w' => e = .returned (.bool true) ∧ Ext W w' by intro W; have h1 := refIn_any p rb W; rw [hin h] at h1; exact h1))
    clear hin hch hco hqq hbb
    go_upto_region 9 with fail
    go_upto_region 19 with (first
     | (refine ldB 25 5 H5.out Tryz.underlying25 ?_) | (refine ldB 25 5 (H5.out.alloc _) Tryz.underlying25 ?_) | (refine ldB 25 5 ((H5.out.alloc _).alloc _) Tryz.underlying25 ?_)
     | (refine wpList_load_part 27 (.tmp 38) rfl rfl H3.out 5 [.int .i64 x.box.lo.x, .int .i64 x.box.lo.y, .int .i64 x.box.lo.z, .int .i64 x.box.hi.x, .int .i64 x.box.hi.y, .int .i64 x.box.hi.z] rfl rfl _ Tryz.underlying27 rfl (by kernel_rfl) ?_) | (refine wpList_load_part 27 (.tmp 38) rfl rfl (H3.out.alloc _) 5 [.int .i64 x.box.lo.x, .int .i64 x.box.lo.y, .int .i64 x.box.lo.z, .int .i64 x.box.hi.x, .int .i64 x.box.hi.y, .int .i64 x.box.hi.z] rfl rfl _ Tryz.underlying27 rfl (by kernel_rfl) ?_)
     | (go_at_call 32; refine (HCH.out _).mono ?_; rintro e W3 ⟨rfl, hx⟩; replace HX := xEx HX hx; replace H3 := aEx H3 hx; replace H5 := aEx H5 hx; replace H7 := aEx H7 hx; clear hx))
    clear hk
    cases ch
   rotate_left 2
   focus
    have hqq := hqq.out
    have hin := hin.out
    obtain ⟨ch, hch⟩ : ∃ ch, changedE x p = ch := ⟨_, rfl⟩
    rw [hch] at hin
    have hta : tinyP x.at_ := inCube_tiny hco.hd (hco.at_ (by rw [hk]; rfl))
    have htp : tinyP p := inCube_tiny hco.hd hqq
    have hd2 : changedE x p = ballQ x.at_ x.size p := by unfold changedE; rw [hk]; rfl
    have HCH := Lib.hid (show ∀ W : World, Calls Tryz.prog 34 #[.agg #[.int .i64 x.at_.x, .int .i64 x.at_.y, .int .i64 x.at_.z], .int .i64 x.size, .agg #[.int .i64 p.x, .int .i64 p.y, .int .i64 p.z]] W fun e w' => e = .returned (.bool ch) ∧ Ext W w' by rw [← hch, hd2]; exact refInBall_any x.at_ x.size p hta htp)
    clear hd2
    clear hta htp
    have HIB := Lib.hid (fun (h : ch = true) => (show ∀ W : World, Calls Tryz.prog 32 #[.agg #[.int .i64 p.x, .int .i64 p.y, .int .i64 p.z], .agg #[.int .i64 rb.lo.x, .int .i64 rb.lo.y, .int .i64 rb.lo.z, .int .i64 rb.hi.x, .int .i64 rb.hi.y, .int .i64 rb.hi.z]] W fun e w' => e = .returned (.bool true) ∧ Ext W w' by intro W; have h1 := refIn_any p rb W; rw [hin h] at h1; exact h1))
    clear hin hch hco hqq hbb
    go_upto_region 10 with fail
    go_upto_region 11 with fail
    have c3 := H3.out.cell; have l3 := H3.out.lt
    go_upto_region 19 with (first
     | (refine wpList_load_part 25 (.tmp 43) rfl rfl H3.out 11 [.int .i64 x.at_.x, .int .i64 x.at_.y, .int .i64 x.at_.z] rfl rfl _ Tryz.underlying25 rfl (by kernel_rfl) ?_) | (refine wpList_load_part 25 (.tmp 43) rfl rfl (H3.out.alloc _) 11 [.int .i64 x.at_.x, .int .i64 x.at_.y, .int .i64 x.at_.z] rfl rfl _ Tryz.underlying25 rfl (by kernel_rfl) ?_)
     | (refine ldB 25 5 H5.out Tryz.underlying25 ?_) | (refine ldB 25 5 (H5.out.alloc _) Tryz.underlying25 ?_) | (refine ldB 25 5 ((H5.out.alloc _).alloc _) Tryz.underlying25 ?_)
     | (go_at_call 34; refine (HCH.out _).mono ?_; rintro e W3 ⟨rfl, hx⟩; replace HX := xEx HX hx; replace H3 := aEx H3 hx; replace H5 := aEx H5 hx; replace H7 := aEx H7 hx; clear hx))
    clear c3 l3
    clear hk
    cases ch
   rotate_left 2
   focus
    have hqq := hqq.out
    have hin := hin.out
    obtain ⟨ch, hch⟩ : ∃ ch, changedE x p = ch := ⟨_, rfl⟩
    rw [hch] at hin
    have hbx := hco.box (by rw [hk]; rfl)
    have htu := hco.turn
    unfold isT at htu
    rw [decide_eq_true_eq] at htu
    have hpw := (pow_le14 d hco.hd).2
    have hd2 : changedE x p = prismR x.box x.turn p := by unfold changedE; rw [hk]; rfl
    have HCH := Lib.hid (show ∀ W : World, Calls Tryz.prog 35 #[.agg #[.int .i64 x.box.lo.x, .int .i64 x.box.lo.y, .int .i64 x.box.lo.z, .int .i64 x.box.hi.x, .int .i64 x.box.hi.y, .int .i64 x.box.hi.z], .int .i64 x.turn, .agg #[.int .i64 p.x, .int .i64 p.y, .int .i64 p.z]] W fun e w' => e = .returned (.bool ch) ∧ Ext W w' by rw [← hch, hd2]; exact refInPrism_any x.box x.turn p htu hbx.empty (hbx.sml hpw))
    clear hd2
    clear hbx htu hpw
    have HIB := Lib.hid (fun (h : ch = true) => (show ∀ W : World, Calls Tryz.prog 32 #[.agg #[.int .i64 p.x, .int .i64 p.y, .int .i64 p.z], .agg #[.int .i64 rb.lo.x, .int .i64 rb.lo.y, .int .i64 rb.lo.z, .int .i64 rb.hi.x, .int .i64 rb.hi.y, .int .i64 rb.hi.z]] W fun e w' => e = .returned (.bool true) ∧ Ext W w' by intro W; have h1 := refIn_any p rb W; rw [hin h] at h1; exact h1))
    clear hin hch hco hqq hbb
    go_upto_region 10 with fail
    go_upto_region 12 with fail
    go_upto_region 13 with fail
    have c3 := H3.out.cell; have l3 := H3.out.lt
    go_upto_region 19 with (first
     | (refine wpList_load_part 27 (.tmp 51) rfl rfl H3.out 5 [.int .i64 x.box.lo.x, .int .i64 x.box.lo.y, .int .i64 x.box.lo.z, .int .i64 x.box.hi.x, .int .i64 x.box.hi.y, .int .i64 x.box.hi.z] rfl rfl _ Tryz.underlying27 rfl (by kernel_rfl) ?_) | (refine wpList_load_part 27 (.tmp 51) rfl rfl (H3.out.alloc _) 5 [.int .i64 x.box.lo.x, .int .i64 x.box.lo.y, .int .i64 x.box.lo.z, .int .i64 x.box.hi.x, .int .i64 x.box.hi.y, .int .i64 x.box.hi.z] rfl rfl _ Tryz.underlying27 rfl (by kernel_rfl) ?_)
     | (refine ldB 25 5 H5.out Tryz.underlying25 ?_) | (refine ldB 25 5 (H5.out.alloc _) Tryz.underlying25 ?_) | (refine ldB 25 5 ((H5.out.alloc _).alloc _) Tryz.underlying25 ?_)
     | (go_at_call 35; refine (HCH.out _).mono ?_; rintro e W3 ⟨rfl, hx⟩; replace HX := xEx HX hx; replace H3 := aEx H3 hx; replace H5 := aEx H5 hx; replace H7 := aEx H7 hx; clear hx))
    clear c3 l3
    clear hk
    cases ch
   rotate_left 2
   focus
    have hqq := hqq.out
    have hin := hin.out
    obtain ⟨ch, hch⟩ : ∃ ch, changedE x p = ch := ⟨_, rfl⟩
    rw [hch] at hin
    have hbx := hco.box (by rw [hk]; rfl)
    have htu := hco.turn
    have HTB := refTurnBox_any x.turn x.box htu hbx.empty (hbx.sml (pow_le14 d hco.hd).2)
    unfold isT at htu
    rw [decide_eq_true_eq] at htu
    have HIV := Lib.hid (refInvert_any x.turn htu)
    have hd2 : changedE x p = inP (rturnP (invI x.turn) 1 (addP (subP p x.at_) (turnB x.turn x.box).lo)) x.box := by unfold changedE; rw [hk]; rfl
    rw [hd2] at hch
    have HSB := Lib.hid (refSub_any p x.at_)
    generalize subP p x.at_ = q1 at HSB hch
    generalize turnB x.turn x.box = t at HTB hch
    replace HTB := Lib.hid HTB
    have HAD := Lib.hid (rAdd_any q1 t.lo)
    generalize addP q1 t.lo = q2 at HAD hch
    generalize invI x.turn = s at HIV hch
    have HTC := Lib.hid (refTurnCell_any s q2)
    generalize rturnP s 1 q2 = q3 at HTC hch
    have HCH := Lib.hid (show ∀ W : World, Calls Tryz.prog 32 #[.agg #[.int .i64 q3.x, .int .i64 q3.y, .int .i64 q3.z], .agg #[.int .i64 x.box.lo.x, .int .i64 x.box.lo.y, .int .i64 x.box.lo.z, .int .i64 x.box.hi.x, .int .i64 x.box.hi.y, .int .i64 x.box.hi.z]] W fun e w' => e = .returned (.bool ch) ∧ Ext W w' by rw [← hch]; exact refIn_any q3 x.box)
    clear hbx htu hd2
    have HIB := Lib.hid (fun (h : ch = true) => (show ∀ W : World, Calls Tryz.prog 32 #[.agg #[.int .i64 p.x, .int .i64 p.y, .int .i64 p.z], .agg #[.int .i64 rb.lo.x, .int .i64 rb.lo.y, .int .i64 rb.lo.z, .int .i64 rb.hi.x, .int .i64 rb.hi.y, .int .i64 rb.hi.z]] W fun e w' => e = .returned (.bool true) ∧ Ext W w' by intro W; have h1 := refIn_any p rb W; rw [hin h] at h1; exact h1))
    clear hin hch hco hqq hbb
    go_upto_region 10 with fail
    go_upto_region 12 with fail
    go_upto_region 14 with fail
    go_upto_region 15 with fail
    (try simp only [Act.put, List.setIfInBounds_toArray, List.set_cons_zero, List.set_cons_succ])
    refine wp_region_box2 (w := W2) (fun i => match i with
        | 0 => .agg #[.int .i64 p.x, .int .i64 p.y, .int .i64 p.z]
        | 1 => .pointer (some ⟨w.heap.size, 11, none⟩)
        | 2 => .agg #[.int .i64 x.at_.x, .int .i64 x.at_.y, .int .i64 x.at_.z]
        | 3 => .agg #[.int .i64 q1.x, .int .i64 q1.y, .int .i64 q1.z]
        | 4 => .pointer (some ⟨w.heap.size, 14, none⟩)
        | 5 => .int .i64 x.turn
        | 6 => .pointer (some ⟨w.heap.size, 5, none⟩)
        | 7 => .agg #[.int .i64 x.box.lo.x, .int .i64 x.box.lo.y, .int .i64 x.box.lo.z, .int .i64 x.box.hi.x, .int .i64 x.box.hi.y, .int .i64 x.box.hi.z]
        | 8 => .agg #[.int .i64 t.lo.x, .int .i64 t.lo.y, .int .i64 t.lo.z, .int .i64 t.hi.x, .int .i64 t.hi.y, .int .i64 t.hi.z]
        | 9 => .agg #[.int .i64 t.lo.x, .int .i64 t.lo.y, .int .i64 t.lo.z]
        | 10 => .agg #[.int .i64 q2.x, .int .i64 q2.y, .int .i64 q2.z]
        | _ => undef) 11 25 9 69 10 [.int .i64 0, .int .i64 0, .int .i64 0] [.int .i64 q2.x, .int .i64 q2.y, .int .i64 q2.z] hm (by kernel_rfl) (by kernel_rfl) (noGuardD (by kernel_rfl)) rfl ⟨_, rfl, rfl, rfl⟩ ⟨_, rfl, rfl, rfl, ⟨⟨11, .data⟩, by simp, rfl, rfl⟩, ⟨⟨10, .data⟩, by simp, rfl, rfl⟩⟩ (by decide) rfl (by simp) (by simp) rfl (info_zero (by kernel_rfl)) (by kernel_rfl) rfl rfl ?_ ?_
    · intro listed w1 i o ho hin hdep hx b K E0 E1 hK
      match i, ho with
      | 0, ho =>
        obtain rfl := Option.some.inj ho
        have e5 : b.tmps[5]? = some (.pointer (some ⟨(w.heap.size + 1), 0, none⟩)) := E0 5 (by kernel_rfl)
        exact op_loadrow rfl (eval_of e5) (H5.out.ext hx) _ Tryz.underlying25 rfl (by kernel_rfl) (hK w1 (Ext.refl _))
      | 1, ho =>
        obtain rfl := Option.some.inj ho
        have e3 : b.tmps[3]? = some (.pointer (some ⟨w.heap.size, 0, none⟩)) := E0 3 (by kernel_rfl)
        exact op_run (by unfold execOp; simp [e3, Act.eval, go_sem]) (hK w1 (Ext.refl _))
      | 2, ho =>
        obtain rfl := Option.some.inj ho
        have e60 : b.tmps[60]? = some (.pointer (some ⟨w.heap.size, 11, none⟩)) := E1 1 60 (by decide) (getD_up (hdep ⟨1, .data⟩ (by simp) rfl)) rfl (by simp)
        exact op_loadpart rfl w.heap.size 11 [.int .i64 x.at_.x, .int .i64 x.at_.y, .int .i64 x.at_.z] (eval_of e60) (H3.out.ext hx) rfl _ Tryz.underlying25 rfl (by kernel_rfl) (hK w1 (Ext.refl _))
      | 3, ho =>
        obtain rfl := Option.some.inj ho
        have e59 : b.tmps[59]? = some (.agg #[.int .i64 p.x, .int .i64 p.y, .int .i64 p.z]) := E1 0 59 (by decide) (getD_up (hdep ⟨0, .data⟩ (by simp) rfl)) rfl (by simp)
        have e61 : b.tmps[61]? = some (.agg #[.int .i64 x.at_.x, .int .i64 x.at_.y, .int .i64 x.at_.z]) := E1 2 61 (by decide) (getD_up (hdep ⟨2, .data⟩ (by simp) rfl)) rfl (by simp)
        exact op_call (G := fun v _ => v = .agg #[.int .i64 q1.x, .int .i64 q1.y, .int .i64 q1.z]) rfl (by simp [eval_of e59, eval_of e61]) (fun _ _ => by kernel_rfl) ((HSB.out w1).mono fun e w' ⟨h1, h2⟩ => ⟨_, h1, h2, rfl⟩) (fun v w' h1 h2 => by subst h2; exact hK w' h1)
      | 4, ho =>
        obtain rfl := Option.some.inj ho
        have e3 : b.tmps[3]? = some (.pointer (some ⟨w.heap.size, 0, none⟩)) := E0 3 (by kernel_rfl)
        exact op_run (by unfold execOp; simp [e3, Act.eval, go_sem]) (hK w1 (Ext.refl _))
      | 5, ho =>
        obtain rfl := Option.some.inj ho
        have e63 : b.tmps[63]? = some (.pointer (some ⟨w.heap.size, 14, none⟩)) := E1 4 63 (by decide) (getD_up (hdep ⟨4, .data⟩ (by simp) rfl)) rfl (by simp)
        have hc := (H3.out.ext hx).cell 14
        exact op_run (by unfold execOp; simp [e63, hc, Act.eval, go_sem]) (hK w1 (Ext.refl _))
      | 6, ho =>
        obtain rfl := Option.some.inj ho
        have e3 : b.tmps[3]? = some (.pointer (some ⟨w.heap.size, 0, none⟩)) := E0 3 (by kernel_rfl)
        exact op_run (by unfold execOp; simp [e3, Act.eval, go_sem]) (hK w1 (Ext.refl _))
      | 7, ho =>
        obtain rfl := Option.some.inj ho
        have e65 : b.tmps[65]? = some (.pointer (some ⟨w.heap.size, 5, none⟩)) := E1 6 65 (by decide) (getD_up (hdep ⟨6, .data⟩ (by simp) rfl)) rfl (by simp)
        exact op_loadpart rfl w.heap.size 5 [.int .i64 x.box.lo.x, .int .i64 x.box.lo.y, .int .i64 x.box.lo.z, .int .i64 x.box.hi.x, .int .i64 x.box.hi.y, .int .i64 x.box.hi.z] (eval_of e65) (H3.out.ext hx) rfl _ Tryz.underlying27 rfl (by kernel_rfl) (hK w1 (Ext.refl _))
      | 8, ho =>
        obtain rfl := Option.some.inj ho
        have e64 : b.tmps[64]? = some (.int .i64 x.turn) := E1 5 64 (by decide) (getD_up (hdep ⟨5, .data⟩ (by simp) rfl)) rfl (by simp)
        have e66 : b.tmps[66]? = some (.agg #[.int .i64 x.box.lo.x, .int .i64 x.box.lo.y, .int .i64 x.box.lo.z, .int .i64 x.box.hi.x, .int .i64 x.box.hi.y, .int .i64 x.box.hi.z]) := E1 7 66 (by decide) (getD_up (hdep ⟨7, .data⟩ (by simp) rfl)) rfl (by simp)
        exact op_call (G := fun v _ => v = .agg #[.int .i64 t.lo.x, .int .i64 t.lo.y, .int .i64 t.lo.z, .int .i64 t.hi.x, .int .i64 t.hi.y, .int .i64 t.hi.z]) rfl (by simp [eval_of e64, eval_of e66]) (fun _ _ => by kernel_rfl) ((HTB.out w1).mono fun e w' ⟨h1, h2⟩ => ⟨_, h1, h2, rfl⟩) (fun v w' h1 h2 => by subst h2; exact hK w' h1)
      | 9, ho =>
        obtain rfl := Option.some.inj ho
        have e67 : b.tmps[67]? = some (.agg #[.int .i64 t.lo.x, .int .i64 t.lo.y, .int .i64 t.lo.z, .int .i64 t.hi.x, .int .i64 t.hi.y, .int .i64 t.hi.z]) := E1 8 67 (by decide) (getD_up (hdep ⟨8, .data⟩ (by simp) rfl)) rfl (by simp)
        exact op_run (by unfold execOp; simp [e67, Act.eval]; kernel_rfl) (hK w1 (Ext.refl _))
      | 10, ho =>
        obtain rfl := Option.some.inj ho
        have e62 : b.tmps[62]? = some (.agg #[.int .i64 q1.x, .int .i64 q1.y, .int .i64 q1.z]) := E1 3 62 (by decide) (getD_up (hdep ⟨3, .data⟩ (by simp) rfl)) rfl (by simp)
        have e68 : b.tmps[68]? = some (.agg #[.int .i64 t.lo.x, .int .i64 t.lo.y, .int .i64 t.lo.z]) := E1 9 68 (by decide) (getD_up (hdep ⟨9, .data⟩ (by simp) rfl)) rfl (by simp)
        exact op_call (G := fun v _ => v = .agg #[.int .i64 q2.x, .int .i64 q2.y, .int .i64 q2.z]) rfl (by simp [eval_of e62, eval_of e68]) (fun _ _ => by kernel_rfl) ((HAD.out w1).mono fun e w' ⟨h1, h2⟩ => ⟨_, h1, h2, rfl⟩) (fun v w' h1 h2 => by subst h2; exact hK w' h1)
      | i + 11, ho => exact absurd hin (by omega)
    intro b9 w9 hx hg hA
    simp only [List.length_cons, List.length_nil, fillAllN, dstOf, Act.put, List.getElem?_toArray, List.getElem?_cons_zero, List.getElem?_cons_succ, Option.bind_some, List.setIfInBounds_toArray, List.set_cons_zero, List.set_cons_succ, boxV, Nat.lt_irrefl, if_false, if_true, Nat.reduceLT, Nat.reduceEqDiff, Nat.reduceAdd]
    obtain ⟨W3, hW9⟩ : ∃ W, W = w9 := ⟨_, rfl⟩
    rw [← hW9] at hx hA ⊢
    clear hW9
    have Q3_9 := Lib.hid (show w.heap.size < b9 from Nat.lt_of_lt_of_le H3.out.lt hg)
    have Q5_9 := Lib.hid (show (w.heap.size + 1) < b9 from Nat.lt_of_lt_of_le H5.out.lt hg)
    have Q7_9 := Lib.hid (show b7 < b9 from Nat.lt_of_lt_of_le H7.out.lt hg)
    have Qw_9 := Lib.hid (Nat.le_trans HX.out.size hg)
    replace HX := xEx HX hx; replace H3 := aEx H3 hx; replace H5 := aEx H5 hx; replace H7 := aEx H7 hx
    have H9 := Lib.hid hA
    clear hx hg hA
    go_upto_region 16 with fail
    have HN0 := Lib.hid (fun W : World => HIV.out W)
    have HN1 := Lib.hid (fun W : World => HTC.out W)
    have HN2 := Lib.hid (fun W : World => HCH.out W)
    have c3 := H3.out.cell; have l3 := H3.out.lt
    have c9 := H9.out.cell; have l9 := H9.out.lt
    (try simp only [Act.put, List.setIfInBounds_toArray, List.set_cons_zero, List.set_cons_succ])
    refine wp_region_near (by assumption) (by kernel_rfl) ?_
    repeat (go_big_quiet_step ((first | (go_at_call 40; with_reducible exact near_call (HN0.out _)) | (go_at_call 39; with_reducible exact near_call (HN1.out _)) | (go_at_call 32; with_reducible exact near_call (HN2.out _)))))
    refine wpQuiet_nil ?_
    intro w1 hw1
    have hy := Ext.of_near hw1
    clear hw1
    replace HX := xEx HX hy; replace H3 := aEx H3 hy; replace H5 := aEx H5 hy; replace H7 := aEx H7 hy; replace H9 := aEx H9 hy
    clear hy c3 l3 c9 l9
    go_upto_region 19 with fail
    clear hk
    cases ch
   rotate_left 2
   focus
    have hqq := hqq.out
    have hin := hin.out
    obtain ⟨ch, hch⟩ : ∃ ch, changedE x p = ch := ⟨_, rfl⟩
    rw [hch] at hin
    have hd2 : changedE x p = decide (p = x.at_) := by unfold changedE; rw [hk]; rfl
    have HPQ := Lib.hid (show ∀ W : World, (binOp .eql 25 (.agg #[.int .i64 p.x, .int .i64 p.y, .int .i64 p.z]) (.agg #[.int .i64 x.at_.x, .int .i64 x.at_.y, .int .i64 x.at_.z])).run Tryz.prog W = .ok (.bool ch) W by intro W; rw [← hch, hd2]; exact eqPt_run p x.at_ W)
    clear hd2
    have HIB := Lib.hid (fun (h : ch = true) => (show ∀ W : World, Calls Tryz.prog 32 #[.agg #[.int .i64 p.x, .int .i64 p.y, .int .i64 p.z], .agg #[.int .i64 rb.lo.x, .int .i64 rb.lo.y, .int .i64 rb.lo.z, .int .i64 rb.hi.x, .int .i64 rb.hi.y, .int .i64 rb.hi.z]] W fun e w' => e = .returned (.bool true) ∧ Ext W w' by intro W; have h1 := refIn_any p rb W; rw [hin h] at h1; exact h1))
    clear hin hch hco hqq hbb
    go_upto_region 10 with fail
    go_upto_region 12 with fail
    go_upto_region 14 with fail
    go_upto_region 17 with fail
    go_upto_region 18 with fail
    go_upto_region 19 with (first
     | (refine wpList_cmp .eql 25 (.tmp 80) (.tmp 82) _ rfl rfl _ _ _ (by rfl) (by rfl) (by kernel_rfl) HPQ.out ?_)
     | (refine ldB 25 5 H5.out Tryz.underlying25 ?_) | (refine ldB 25 5 (H5.out.alloc _) Tryz.underlying25 ?_) | (refine ldB 25 5 ((H5.out.alloc _).alloc _) Tryz.underlying25 ?_)
     | (refine wpList_load_part 25 (.tmp 81) rfl rfl H3.out 11 [.int .i64 x.at_.x, .int .i64 x.at_.y, .int .i64 x.at_.z] rfl rfl _ Tryz.underlying25 rfl (by kernel_rfl) ?_) | (refine wpList_load_part 25 (.tmp 81) rfl rfl (H3.out.alloc _) 11 [.int .i64 x.at_.x, .int .i64 x.at_.y, .int .i64 x.at_.z] rfl rfl _ Tryz.underlying25 rfl (by kernel_rfl) ?_))
    clear hk
    cases ch
   rotate_left 2
   focus
    have hbz := bounds_none hco hk
    rw [hbb.out] at hbz
    have HNZ := Lib.hid (neqBx0_run rb hbz)
    clear hbz hin hbb hqq hco
    obtain ⟨k1, k2, k3, k4, k5⟩ := hk
    go_upto_region 10 with fail
    go_upto_region 12 with fail
    go_upto_region 14 with fail
    go_upto_region 17 with fail
    go_upto_region 6 with fail
    go_upto_region 19 with (first
     | (refine wpList_cmp .neq 27 (.tmp 32) (.tmp 33) _ rfl rfl _ _ _ (by rfl) (by rfl) (by kernel_rfl) HNZ.out ?_)
     | (refine ldB 27 7 H7.out Tryz.underlying27 ?_) | (refine ldB 27 7 (H7.out.alloc _) Tryz.underlying27 ?_) | (refine ldB 27 7 ((H7.out.alloc _).alloc _) Tryz.underlying27 ?_))
    clear k1 k2 k3 k4 k5
   rotate_left
   any_goals
    replace HIB := Lib.hid (HIB.out rfl)
    refine wp_region_val [some (.bool true), some (.bool true), some (.bool true), some (.bool false), some (.bool false), some (.agg #[.int .i64 p.x, .int .i64 p.y, .int .i64 p.z]), some (.agg #[.int .i64 rb.lo.x, .int .i64 rb.lo.y, .int .i64 rb.lo.z, .int .i64 rb.hi.x, .int .i64 rb.hi.y, .int .i64 rb.hi.z]), some (.bool true), some (.bool true), some (.bool true), some (.bool true), some (.int .i64 d), some (.int .i64 S), some (.agg #[.int .i64 (cubeB S).lo.x, .int .i64 (cubeB S).lo.y, .int .i64 (cubeB S).lo.z, .int .i64 (cubeB S).hi.x, .int .i64 (cubeB S).hi.y, .int .i64 (cubeB S).hi.z]), some (.agg #[.int .i64 rb.lo.x, .int .i64 rb.lo.y, .int .i64 rb.lo.z, .int .i64 rb.hi.x, .int .i64 rb.hi.y, .int .i64 rb.hi.z]), some (.bool true), some (.bool true), some (.bool true)] hm (by kernel_rfl) (by kernel_rfl) rfl ?_ ?_ rfl rfl
    · refine c_ (s_call fun w1 hx => sanity_any w1 (HR.out.ext (HX.out.trans hx))) ?_
      refine c_ s_mv ?_
      refine c_ s_mv ?_
      refine c_ (s_run1 86 (hr := fun b w1 _ e => by unfold execOp; simp [e, Act.eval, go_sem])) ?_
      refine c_ s_mv ?_
      refine c_ (s_row H5 Tryz.underlying25) ?_
      refine c_ (s_row H7 Tryz.underlying27) ?_
      refine c_ (s_call fun w1 hx => HIB.out w1) ?_
      refine c_ (s_run2 88 91 (hr := fun b w1 _ e f => by unfold execOp; simp [e, f, Act.eval, go_sem])) ?_
      refine c_ (s_run2 85 92 (hr := fun b w1 _ e f => by unfold execOp; simp [e, f, Act.eval, go_sem])) ?_
      refine c_ s_mv ?_
      refine c_ s_mv ?_
      refine c_ (s_run1 95 (hr := fun b w1 _ e => by unfold execOp; simp [e, Act.eval, go_sem, hsh])) ?_
      refine c_ (s_call fun w1 hx => HCU.out w1) ?_
      refine c_ (s_row H7 Tryz.underlying27) ?_
      refine c_ (s_call fun w1 hx => HCT.out w1) ?_
      refine c_ (s_run2 94 99 (hr := fun b w1 _ e f => by unfold execOp; simp [e, f, Act.eval, go_sem])) ?_
      refine c_ s_mv ?_
      exact trivial
    intro w9 hx
    simp only [fillM, Act.put, List.getElem?_cons_zero, List.getElem?_cons_succ, Option.join_some, Option.getD_some, List.setIfInBounds_toArray, List.set_cons_zero, List.set_cons_succ, Nat.zero_add, Nat.reduceAdd]
    go_wp2_with fail
    go_ret
    exact ⟨rfl, HX.out.trans hx⟩
   all_goals
    (try clear HIB)
    refine wp_region_val [some (.bool true), some (.bool true), some (.bool false), some (.bool true), some (.bool true), some (undef), some (undef), some (undef), some (.bool true), some (.bool true), some (.bool true), some (.int .i64 d), some (.int .i64 S), some (.agg #[.int .i64 (cubeB S).lo.x, .int .i64 (cubeB S).lo.y, .int .i64 (cubeB S).lo.z, .int .i64 (cubeB S).hi.x, .int .i64 (cubeB S).hi.y, .int .i64 (cubeB S).hi.z]), some (.agg #[.int .i64 rb.lo.x, .int .i64 rb.lo.y, .int .i64 rb.lo.z, .int .i64 rb.hi.x, .int .i64 rb.hi.y, .int .i64 rb.hi.z]), some (.bool true), some (.bool true), some (.bool true)] hm (by kernel_rfl) (by kernel_rfl) rfl ?_ ?_ rfl rfl
    · refine c_ (s_call fun w1 hx => sanity_any w1 (HR.out.ext (HX.out.trans hx))) ?_
      refine c_ s_mv ?_
      refine c_ s_mv ?_
      refine c_ (s_run1 86 (hr := fun b w1 _ e => by unfold execOp; simp [e, Act.eval, go_sem])) ?_
      refine c_ s_mv ?_
      refine c_ s_no ?_
      refine c_ s_no ?_
      refine c_ s_no ?_
      refine c_ (s_run2 88 91 (hr := fun b w1 _ e f => by unfold execOp; simp [e, f, Act.eval, go_sem])) ?_
      refine c_ (s_run2 85 92 (hr := fun b w1 _ e f => by unfold execOp; simp [e, f, Act.eval, go_sem])) ?_
      refine c_ s_mv ?_
      refine c_ s_mv ?_
      refine c_ (s_run1 95 (hr := fun b w1 _ e => by unfold execOp; simp [e, Act.eval, go_sem, hsh])) ?_
      refine c_ (s_call fun w1 hx => HCU.out w1) ?_
      refine c_ (s_row H7 Tryz.underlying27) ?_
      refine c_ (s_call fun w1 hx => HCT.out w1) ?_
      refine c_ (s_run2 94 99 (hr := fun b w1 _ e f => by unfold execOp; simp [e, f, Act.eval, go_sem])) ?_
      refine c_ s_mv ?_
      exact trivial
    intro w9 hx
    simp only [fillM, Act.put, List.getElem?_cons_zero, List.getElem?_cons_succ, Option.join_some, Option.getD_some, List.setIfInBounds_toArray, List.set_cons_zero, List.set_cons_succ, Nat.zero_add, Nat.reduceAdd]
    go_wp2_with fail
    go_ret
    exact ⟨rfl, HX.out.trans hx⟩

end Go.Proofs.YtlinhgannajfpaaGreatDoor

/- EditBounds: for every input the law returns true, and each argument reads as it did. No condition. -/
namespace Go.Proofs.YtlinhgannajfpaaGreatDoor
open Go Go.RowKit Go.ChangeShapes Go.WideShapes Go.ChangeAt

set_option maxHeartbeats 1600000 in
set_option maxRecDepth 100000 in
theorem editBounds_lifted (os : Os) (started : os.Started) (H : Type) (enc : TypeId × Value → H) :
    ReturnsInHanded {} Tryz.checked os 9 .any (fun w args => (Rows.editBoundsSpec.pre enc Tryz.prog Tryz.f9 Rows.editBoundsRow.domain false w args ∧ laidMetH Tryz.prog laidL w) ∧ sizedMet enc Tryz.prog Tryz.f9 (OpenSpec.ofChange Rows.editBoundsSpec) false w args) (Rows.editBoundsSpec.post enc Tryz.prog Tryz.f9 false true false false) := by
 refine returnsInHanded_of_change_and (C := Tryz.checked) (X := fun w _ => laidMetH Tryz.prog laidL w) (fun _ _ _ hh h => h.of_heap hh) own_ started (by kernel_rfl) Tryz.func9
  (ChangeSpec.witness_shaped (enc := enc) (C := Tryz.checked) (os := os) (X := fun w _ => laidMetH Tryz.prog laidL w) false (World.laidAll Tryz.prog os laidL) #[.agg #[.int .i64 0, .int .i64 0, .int .i64 0, .int .i64 0, .int .i64 0, .int .i64 0, .int .i64 0, .int .i64 0, .int .i64 0, .int .i64 0, .int .i64 0, .int .i64 0, .int .i64 0, .int .i64 0, .int .i64 0, .int .i64 0, .int .i64 0], .int .i64 0, .agg #[.int .i64 0, .int .i64 0, .int .i64 0]] 8 (World.laidAll_os _ _ _) (World.shaped_of_ZipB (by kernel_rfl) (by kernel_rfl)) (by kernel_rfl) (by kernel_rfl) (by kernel_rfl)
    (by rw [MakeChecks.laidMetH_plain _ _ _ (by kernel_rfl)]; exact laidMet_laidAll _ (by kernel_rfl) (by kernel_rfl))) ?_
 intro W base args ds gs before hval0 hW hcnd _ hLd _
 have hval : ∀ (j : Nat) t v, Tryz.f9.params[j]? = some t → args[j]? = some v → Value.okWide Tryz.prog W .any base t v := hval0
 have hLd := laid_of hLd
 have hW' := hW
 obtain ⟨p, q, hA0, hV, rfl, hfz, hnd⟩ := hW
 have hA : DataW.TrodAll enc Tryz.prog W 0 (fun _ => true) true Tryz.f9.params.toList args.toList ds p := hA0
 have hAll := hA
 rw [Tryz.params9] at hA hval
 obtain ⟨v0, vs0, d0, ds0, p0, q0, ha, rfl, rfl, h0, r0⟩ := trodAll_cons hA
 obtain ⟨v1, vs1, d1, ds1, p1, q1, rfl, rfl, rfl, h1, r1⟩ := trodAll_cons r0
 obtain ⟨v2, vs2, d2, ds2, p2, q2, rfl, rfl, rfl, h2, r2⟩ := trodAll_cons r1
 obtain ⟨rfl, rfl, rfl⟩ := trodAll_nil r2
 obtain ⟨rfl, rfl⟩ := trodVars_none hV
 have hargs : args = #[v0, v1, v2] := by apply Array.ext'; exact ha
 subst hargs
 obtain ⟨x, rfl, hfx⟩ := read_Ed (hval 0 _ _ rfl rfl) h0
 obtain ⟨dd, rfl, rfl, rfl, _⟩ := open_int Tryz.underlying3 (hval 1 _ _ rfl rfl) h1
 obtain ⟨pt, rfl, hfp⟩ := read_Pt (hval 2 _ _ rfl rfl) h2
 refine (EditBounds_any x (fits_of hfx) dd pt W hLd).mono fun e W' ⟨he, hx⟩ => ?_
 subst he
 have hlt : ∀ x, x ∈ (p0 ++ ([] ++ (p2 ++ []))) → x.block < W.heap.size := fun x hx2 => hW'.lt x (by simpa using hx2)
 exact ⟨_, rfl, _, _, _, [], _, [], hW', trodAll_mk1 (shut_bool Tryz.underlying4 true), args_below laidOut_ _ _ _ _ W' (by rw [Tryz.params9]; intro t ht; simp at ht; rcases ht with rfl | rfl | rfl <;> exact ⟨by kernel_rfl, of_decide_eq_true (by kernel_rfl)⟩) hAll hx.below hlt, rfl, hx.below.frame _, fun h => by cases h⟩

theorem editBounds_row : Rows.EditBoundsSaid :=
 OpenClaim.holds_of_wide 9 Tryz.f9 rfl rfl rfl rfl rfl rfl rfl ⟨rfl, rfl, rfl, rfl, rfl⟩ rfl rfl rfl rfl rfl (by kernel_rfl) Tryz.func9 (by kernel_rfl)
  (of_decide_eq_true (by kernel_rfl)) (by unfold Func.isWrapper; rw [if_neg (of_decide_eq_false (by kernel_rfl))]; exact ⟨rfl, rfl⟩)
  (fun os started H enc _ => editBounds_lifted os started H enc)

theorem editBounds_holds : Rows.EditBoundsCardSaid :=
 Claim7.holds_tied_plain_at .later [] [.data, .data, .data, .data] true Rows.editBoundsCard.stood.harness false
  editBounds_row (fun _ h => by cases h) (by kernel_rfl) (fun _ h => by cases h) editBounds_row_tie rfl ⟨rfl, rfl⟩ (by kernel_rfl) rfl
  (fun f fn hf hfn => by
    obtain rfl : f = 9 := Option.some.inj ((show Tryz.prog.funcNamed "voxel/voxellaw25.EditBounds" = some 9 by kernel_rfl).symm.trans hf) |>.symm
    obtain rfl : fn = Tryz.f9 := (Option.some.inj (Tryz.func9.symm.trans hfn)).symm
    exact ⟨by kernel_rfl, fun j t ht => by
     rw [Tryz.params9] at ht
     have hm : t ∈ [29, 3, 25] := by simpa using Array.mem_of_getElem? ht
     have hall : ([29, 3, 25].all fun u => !Tryz.prog.wantsStandIn u) = true := by kernel_rfl
     exact (show Tryz.prog.wantsStandIn t = false by simpa using List.all_eq_true.1 hall t hm)⟩)
  (by kernel_rfl)
end Go.Proofs.YtlinhgannajfpaaGreatDoor
