/- YtlinhgannajfpaaGreatDoorRi · YtlinhgannajfpaaGreatDoorTq · YtlinhgannajfpaaGreatDoorTo · YtlinhgannajfpaaGreatDoorVe · YtlinhgannajfpaaGreatDoorTp · YtlinhgannajfpaaGreatDoorTh · YtlinhgannajfpaaGreatDoorHl · YtlinhgannajfpaaGreatDoorTj · YtlinhgannajfpaaGreatDoorZa -/
import Derived.Deep.DeepCutAuto
import Derived.Lib.Hide
import Derived.Test.YtlinhgannajfpaaGreatDoorZa9
/- Contract of the reference's Intersect. -/
namespace Go.Proofs.YtlinhgannajfpaaGreatDoor
open Go Go.RowKit

theorem noGuard_spec {l : List Oper} (h : (l.all fun o => o.guard.isNone) = true) : ∀ (i : Nat) (o : Oper), l[i]? = some o → o.guard = none := fun i o ho => by
 have h1 := List.all_eq_true.1 h o (List.mem_of_getElem? ho)
 simpa using h1
def lowA (a b : Bx) : Nat → List Value
 | 0 => [.int .i64 a.lo.x, .int .i64 a.lo.y, .int .i64 a.lo.z]
 | 1 => [.int .i64 (max a.lo.x b.lo.x), .int .i64 a.lo.y, .int .i64 a.lo.z]
 | 2 => [.int .i64 (max a.lo.x b.lo.x), .int .i64 (max a.lo.y b.lo.y), .int .i64 a.lo.z]
 | _ => [.int .i64 (max a.lo.x b.lo.x), .int .i64 (max a.lo.y b.lo.y), .int .i64 (max a.lo.z b.lo.z)]
def highA (a b : Bx) : Nat → List Value
 | 0 => [.int .i64 a.hi.x, .int .i64 a.hi.y, .int .i64 a.hi.z]
 | 1 => [.int .i64 (min a.hi.x b.hi.x), .int .i64 a.hi.y, .int .i64 a.hi.z]
 | 2 => [.int .i64 (min a.hi.x b.hi.x), .int .i64 (min a.hi.y b.hi.y), .int .i64 a.hi.z]
 | _ => [.int .i64 (min a.hi.x b.hi.x), .int .i64 (min a.hi.y b.hi.y), .int .i64 (min a.hi.z b.hi.z)]
structure IntR (a b : Bx) (n2 nL nH nM nX : Nat) (w : World) (k : Nat) (wr : World) : Prop where
 L : Arr wr nL 102 (lowA a b k)
 H : Arr wr nH 102 (highA a b k)
 M : Arr wr nM 102 [.int .i64 b.lo.x, .int .i64 b.lo.y, .int .i64 b.lo.z]
 X : Arr wr nX 102 [.int .i64 b.hi.x, .int .i64 b.hi.y, .int .i64 b.hi.z]
 O : Arr wr n2 27 [.int .i64 zeroBx.lo.x, .int .i64 zeroBx.lo.y, .int .i64 zeroBx.lo.z, .int .i64 zeroBx.hi.x, .int .i64 zeroBx.hi.y, .int .i64 zeroBx.hi.z]
 ext : Ext w wr
def interV (a b : Bx) (_nL _nH : Nat) : Nat → Value
 | 0 => .agg #[.int .i64 ((meetB a b).lo).x, .int .i64 ((meetB a b).lo).y, .int .i64 ((meetB a b).lo).z]
 | 1 => .agg #[.int .i64 ((meetB a b).lo).x, .int .i64 ((meetB a b).lo).y, .int .i64 ((meetB a b).lo).z]
 | 2 => .agg #[.int .i64 ((meetB a b).hi).x, .int .i64 ((meetB a b).hi).y, .int .i64 ((meetB a b).hi).z]
 | 3 => .agg #[.int .i64 ((meetB a b).hi).x, .int .i64 ((meetB a b).hi).y, .int .i64 ((meetB a b).hi).z]
 | _ => .agg #[.int .i64 (meetB a b).lo.x, .int .i64 (meetB a b).lo.y, .int .i64 (meetB a b).lo.z, .int .i64 (meetB a b).hi.x, .int .i64 (meetB a b).hi.y, .int .i64 (meetB a b).hi.z]

theorem infoBox : (Tryz.prog.info? 27).map (fun i => (i.zero, i.size, i.bytes)) = some (some (.agg #[.int .i64 0, .int .i64 0, .int .i64 0, .int .i64 0, .int .i64 0, .int .i64 0]), 6, 48) := by kernel_rfl
set_option maxRecDepth 100000 in
set_option maxHeartbeats 8000000 in
theorem refIntersect_any (a b : Bx) (w : World) :
    Calls Tryz.prog 62 #[.agg #[.int .i64 a.lo.x, .int .i64 a.lo.y, .int .i64 a.lo.z, .int .i64 a.hi.x, .int .i64 a.hi.y, .int .i64 a.hi.z], .agg #[.int .i64 b.lo.x, .int .i64 b.lo.y, .int .i64 b.lo.z, .int .i64 b.hi.x, .int .i64 b.hi.y, .int .i64 b.hi.z]] w fun e w' => e = .returned (.agg #[.int .i64 (interB a b).lo.x, .int .i64 (interB a b).lo.y, .int .i64 (interB a b).lo.z, .int .i64 (interB a b).hi.x, .int .i64 (interB a b).hi.y, .int .i64 (interB a b).hi.z]) ∧ Ext w w' := by
 have hm := mixed
 have hG := near_old
 have HQ := Lib.hid (fun w' => refEmpty_any (meetB a b) w')
 have HI := Lib.hid (show interB a b = if emptyB (meetB a b) then zeroBx else meetB a b from rfl)
 go_enter Tryz.func62, Tryz.ntmps62
 go_upto_region 1 with fail
 obtain ⟨W0, hW⟩ : ∃ W, W = ((w.alloc (.cells #[.int .i64 a.lo.x, .int .i64 a.lo.y, .int .i64 a.lo.z, .int .i64 a.hi.x, .int .i64 a.hi.y, .int .i64 a.hi.z] 27)).alloc (.cells #[.int .i64 b.lo.x, .int .i64 b.lo.y, .int .i64 b.lo.z, .int .i64 b.hi.x, .int .i64 b.hi.y, .int .i64 b.hi.z] 27)).alloc (.cells #[.int .i64 0, .int .i64 0, .int .i64 0, .int .i64 0, .int .i64 0, .int .i64 0] 27) := ⟨_, rfl⟩
 have hx0 : Ext w W0 := by rw [hW]; exact byX
 have B0 : Arr W0 w.heap.size 27 [.int .i64 a.lo.x, .int .i64 a.lo.y, .int .i64 a.lo.z, .int .i64 a.hi.x, .int .i64 a.hi.y, .int .i64 a.hi.z] := by rw [hW]; exact ((Arr.new w _ _).alloc _).alloc _
 have B1 : Arr W0 (w.heap.size + 1) 27 [.int .i64 b.lo.x, .int .i64 b.lo.y, .int .i64 b.lo.z, .int .i64 b.hi.x, .int .i64 b.hi.y, .int .i64 b.hi.z] := by rw [hW]; exact (Arr.new1 w _ _ _).alloc _
 have B2 : Arr W0 (w.heap.size + 1 + 1) 27 [.int .i64 zeroBx.lo.x, .int .i64 zeroBx.lo.y, .int .i64 zeroBx.lo.z, .int .i64 zeroBx.hi.x, .int .i64 zeroBx.hi.y, .int .i64 zeroBx.hi.z] := by
  rw [hW]
  have h := Arr.new ((w.alloc (.cells #[.int .i64 a.lo.x, .int .i64 a.lo.y, .int .i64 a.lo.z, .int .i64 a.hi.x, .int .i64 a.hi.y, .int .i64 a.hi.z] 27)).alloc (.cells #[.int .i64 b.lo.x, .int .i64 b.lo.y, .int .i64 b.lo.z, .int .i64 b.hi.x, .int .i64 b.hi.y, .int .i64 b.hi.z] 27)) 27 [.int .i64 0, .int .i64 0, .int .i64 0, .int .i64 0, .int .i64 0, .int .i64 0]
  simpa only [World.size_alloc_, zeroBx] using h
 rw [← hW]
 have hl2 := B2.lt
 clear hW
 go_wp2_with (first | (refine wpList_load_part 25 (.tmp 12) rfl rfl B0 0 [.int .i64 a.lo.x, .int .i64 a.lo.y, .int .i64 a.lo.z] rfl rfl _ Tryz.underlying25 rfl (by kernel_rfl) ?_) | (refine wpList_load_part 25 (.tmp 12) rfl rfl (B0.alloc _) 0 [.int .i64 a.lo.x, .int .i64 a.lo.y, .int .i64 a.lo.z] rfl rfl _ Tryz.underlying25 rfl (by kernel_rfl) ?_))
 ((refine (reflist_any a.lo _).mono ?_); rintro e wa ⟨rfl, xx⟩; have xz := xx.size; (try simp only [World.size_alloc_, World.size_setCell_] at xz); obtain ⟨B0, cB0, fB0, lB0⟩ := Arr.look (w' := wa) B0 byX; obtain ⟨B1, cB1, fB1, lB1⟩ := Arr.look (w' := wa) B1 byX; obtain ⟨B2, cB2, fB2, lB2⟩ := Arr.look (w' := wa) B2 byX)
 have zA := B2.lt
 go_wp2_with (first | (refine wpList_load_part 25 (.tmp 15) rfl rfl B0 3 [.int .i64 a.hi.x, .int .i64 a.hi.y, .int .i64 a.hi.z] rfl rfl _ Tryz.underlying25 rfl (by kernel_rfl) ?_) | (refine wpList_load_part 25 (.tmp 15) rfl rfl (B0.alloc _) 3 [.int .i64 a.hi.x, .int .i64 a.hi.y, .int .i64 a.hi.z] rfl rfl _ Tryz.underlying25 rfl (by kernel_rfl) ?_))
 ((refine (reflist_any a.hi _).mono ?_); rintro e wb ⟨rfl, xx⟩; have xz := xx.size; (try simp only [World.size_alloc_] at xz); obtain ⟨B0, cB0, fB0, lB0⟩ := Arr.look (w' := wb) B0 byX; obtain ⟨B1, cB1, fB1, lB1⟩ := Arr.look (w' := wb) B1 byX; obtain ⟨B2, cB2, fB2, lB2⟩ := Arr.look (w' := wb) B2 byX)
 have BL := (Arr.new wa 102 [.int .i64 a.lo.x, .int .i64 a.lo.y, .int .i64 a.lo.z]).ext xx
 have zB := BL.lt
 go_wp2_with (first | (refine wpList_load_part 25 (.tmp 18) rfl rfl B1 0 [.int .i64 b.lo.x, .int .i64 b.lo.y, .int .i64 b.lo.z] rfl rfl _ Tryz.underlying25 rfl (by kernel_rfl) ?_) | (refine wpList_load_part 25 (.tmp 18) rfl rfl (B1.alloc _) 0 [.int .i64 b.lo.x, .int .i64 b.lo.y, .int .i64 b.lo.z] rfl rfl _ Tryz.underlying25 rfl (by kernel_rfl) ?_))
 ((refine (reflist_any b.lo _).mono ?_); rintro e wc ⟨rfl, xx⟩; have xz := xx.size; (try simp only [World.size_alloc_] at xz); obtain ⟨B0, cB0, fB0, lB0⟩ := Arr.look (w' := wc) B0 byX; obtain ⟨B1, cB1, fB1, lB1⟩ := Arr.look (w' := wc) B1 byX; obtain ⟨B2, cB2, fB2, lB2⟩ := Arr.look (w' := wc) B2 byX; obtain ⟨BL, cBL, fBL, lBL⟩ := Arr.look (w' := wc) BL byX)
 have BH := (Arr.new wb 102 [.int .i64 a.hi.x, .int .i64 a.hi.y, .int .i64 a.hi.z]).ext xx
 have zC := BH.lt
 go_wp2_with (first | (refine wpList_load_part 25 (.tmp 21) rfl rfl B1 3 [.int .i64 b.hi.x, .int .i64 b.hi.y, .int .i64 b.hi.z] rfl rfl _ Tryz.underlying25 rfl (by kernel_rfl) ?_) | (refine wpList_load_part 25 (.tmp 21) rfl rfl (B1.alloc _) 3 [.int .i64 b.hi.x, .int .i64 b.hi.y, .int .i64 b.hi.z] rfl rfl _ Tryz.underlying25 rfl (by kernel_rfl) ?_))
 ((refine (reflist_any b.hi _).mono ?_); rintro e wd ⟨rfl, xx⟩; have xz := xx.size; (try simp only [World.size_alloc_] at xz); obtain ⟨B0, cB0, fB0, lB0⟩ := Arr.look (w' := wd) B0 byX; obtain ⟨B1, cB1, fB1, lB1⟩ := Arr.look (w' := wd) B1 byX; obtain ⟨B2, cB2, fB2, lB2⟩ := Arr.look (w' := wd) B2 byX; obtain ⟨BL, cBL, fBL, lBL⟩ := Arr.look (w' := wd) BL byX; obtain ⟨BH, cBH, fBH, lBH⟩ := Arr.look (w' := wd) BH byX)
 have BM := (Arr.new wc 102 [.int .i64 b.lo.x, .int .i64 b.lo.y, .int .i64 b.lo.z]).ext xx
 have zD := BM.lt
 have hxd : Ext w wd := byX
 clear xx xz
 have HR0 := Lib.hid (IntR.mk (BL.alloc (.cells #[.int .i64 b.hi.x, .int .i64 b.hi.y, .int .i64 b.hi.z] 102)) (BH.alloc _) (BM.alloc _) (Arr.new wd 102 [.int .i64 b.hi.x, .int .i64 b.hi.y, .int .i64 b.hi.z]) (B2.alloc _) (hxd.alloc _) : IntR a b (w.heap.size + 1 + 1) wa.heap.size wb.heap.size wc.heap.size wd.heap.size w 0 (wd.alloc (.cells #[.int .i64 b.hi.x, .int .i64 b.hi.y, .int .i64 b.hi.z] 102)))
 clear cBL fBL lBL cBH fBH lBH cB0 fB0 lB0 cB1 fB1 lB1 cB2 fB2 lB2
 go_wp2_with fail
 go_loopw [9] (fun i wr => ∃ k : Nat, k ≤ 3 ∧ i = .int .i64 k ∧ IntR a b (w.heap.size + 1 + 1) wa.heap.size wb.heap.size wc.heap.size wd.heap.size w k wr) (fun i _ => 3 - (intOf i).toNat)
 case atStart => exact ⟨0, by omega, rfl, HR0.out⟩
 case round =>
  obtain ⟨k, hk, rfl, hR⟩ := hrel
  obtain rfl | rfl | rfl | rfl : k = 0 ∨ k = 1 ∨ k = 2 ∨ k = 3 := by omega
  · have L := hR.L.cell; have H := hR.H.cell; have M := hR.M.cell; have X := hR.X.cell
    have qL := hR.L.lt; have qH := hR.H.lt; have qM := hR.M.lt; have qX := hR.X.lt
    simp only [lowA, highA] at L H
    have HR := Lib.hid hR; clear hR
    go_wp2_with fail
    refine wp_region_near_tail 9 (by assumption) (by kernel_rfl) ?_
    simp only [List.take_succ_cons, List.take_zero, List.drop_succ_cons, List.drop_zero]
    repeat (go_big_quiet_step (fail))
    refine wpQuiet_nil ?_
    intro w1 hw1
    have hy := Ext.of_near hw1
    clear hw1
    have L1 := HR.out.L.ext hy; have H1 := HR.out.H.ext hy; have M1 := HR.out.M.ext hy; have X1 := HR.out.X.ext hy; have O1 := HR.out.O.ext hy
    have e1 := HR.out.ext.trans hy
    clear hy
    have V := Int.le_refl 0
    have L2 := L1.set 0 (.int .i64 (max a.lo.x b.lo.x))
    have H2 := H1.other (p := ⟨wa.heap.size, 0, none⟩) (by simp only; omega) (.int .i64 (max a.lo.x b.lo.x))
    have M2 := M1.other (p := ⟨wa.heap.size, 0, none⟩) (by simp only; omega) (.int .i64 (max a.lo.x b.lo.x))
    have X2 := X1.other (p := ⟨wa.heap.size, 0, none⟩) (by simp only; omega) (.int .i64 (max a.lo.x b.lo.x))
    have O2 := O1.other (p := ⟨wa.heap.size, 0, none⟩) (by simp only; omega) (.int .i64 (max a.lo.x b.lo.x))
    have e2 := e1.setCell (p := ⟨wa.heap.size, 0, none⟩) (by simp only; omega) (.int .i64 (max a.lo.x b.lo.x))
    have L3 := L1.cell; have fL := L1.frozen
    have H := H2.cell; have M := M2.cell; have X := X2.cell
    have qH := H2.lt; have qX := X2.lt
    simp only [World.size_setCell_] at qH qX
    simp only [lowA, highA] at L3 H
    have HL := Lib.hid L2; have HH := Lib.hid H2; have HM := Lib.hid M2; have HX := Lib.hid X2; have HO := Lib.hid O2; have HE := Lib.hid e2
    clear L1 H1 M1 X1 O1 e1 L2 H2 M2 X2 O2 e2 V
    go_wp2_with fail
    refine wp_region_near_tail 9 (by assumption) (by kernel_rfl) ?_
    simp only [List.take_succ_cons, List.take_zero, List.drop_succ_cons, List.drop_zero]
    repeat (go_big_quiet_step (fail))
    refine wpQuiet_nil ?_
    intro w1 hw1
    have hy := Ext.of_near hw1
    clear hw1
    have L1 := HL.out.ext hy; have H1 := HH.out.ext hy; have M1 := HM.out.ext hy; have X1 := HX.out.ext hy; have O1 := HO.out.ext hy
    have e1 := HE.out.trans hy
    clear hy
    have H3 := H1.cell; have fH := H1.frozen
    simp only [highA] at H3
    have HL := Lib.hid L1; have HH := Lib.hid H1; have HM := Lib.hid M1; have HX := Lib.hid X1; have HO := Lib.hid O1; have HE := Lib.hid e1
    clear L1 H1 M1 X1 O1 e1
    go_wp2
    go_roundw
    case rel =>
     exact ⟨1, by omega, rfl, HL.out.other (by simp only; omega) _, HH.out.set 0 (.int .i64 (min a.hi.x b.hi.x)), HM.out.other (by simp only; omega) _, HX.out.other (by simp only; omega) _, HO.out.other (by simp only; omega) _, HE.out.setCell (by simp only; omega) _⟩
    case measure => simp [intOf]
  · have L := hR.L.cell; have H := hR.H.cell; have M := hR.M.cell; have X := hR.X.cell
    have qL := hR.L.lt; have qH := hR.H.lt; have qM := hR.M.lt; have qX := hR.X.lt
    simp only [lowA, highA] at L H
    have HR := Lib.hid hR; clear hR
    go_wp2_with fail
    refine wp_region_near_tail 9 (by assumption) (by kernel_rfl) ?_
    simp only [List.take_succ_cons, List.take_zero, List.drop_succ_cons, List.drop_zero]
    repeat (go_big_quiet_step (fail))
    refine wpQuiet_nil ?_
    intro w1 hw1
    have hy := Ext.of_near hw1
    clear hw1
    have L1 := HR.out.L.ext hy; have H1 := HR.out.H.ext hy; have M1 := HR.out.M.ext hy; have X1 := HR.out.X.ext hy; have O1 := HR.out.O.ext hy
    have e1 := HR.out.ext.trans hy
    clear hy
    have V := Int.le_refl 0
    have L2 := L1.set 1 (.int .i64 (max a.lo.y b.lo.y))
    have H2 := H1.other (p := ⟨wa.heap.size, 1, none⟩) (by simp only; omega) (.int .i64 (max a.lo.y b.lo.y))
    have M2 := M1.other (p := ⟨wa.heap.size, 1, none⟩) (by simp only; omega) (.int .i64 (max a.lo.y b.lo.y))
    have X2 := X1.other (p := ⟨wa.heap.size, 1, none⟩) (by simp only; omega) (.int .i64 (max a.lo.y b.lo.y))
    have O2 := O1.other (p := ⟨wa.heap.size, 1, none⟩) (by simp only; omega) (.int .i64 (max a.lo.y b.lo.y))
    have e2 := e1.setCell (p := ⟨wa.heap.size, 1, none⟩) (by simp only; omega) (.int .i64 (max a.lo.y b.lo.y))
    have L3 := L1.cell; have fL := L1.frozen
    have H := H2.cell; have M := M2.cell; have X := X2.cell
    have qH := H2.lt; have qX := X2.lt
    simp only [World.size_setCell_] at qH qX
    simp only [lowA, highA] at L3 H
    have HL := Lib.hid L2; have HH := Lib.hid H2; have HM := Lib.hid M2; have HX := Lib.hid X2; have HO := Lib.hid O2; have HE := Lib.hid e2
    clear L1 H1 M1 X1 O1 e1 L2 H2 M2 X2 O2 e2 V
    go_wp2_with fail
    refine wp_region_near_tail 9 (by assumption) (by kernel_rfl) ?_
    simp only [List.take_succ_cons, List.take_zero, List.drop_succ_cons, List.drop_zero]
    repeat (go_big_quiet_step (fail))
    refine wpQuiet_nil ?_
    intro w1 hw1
    have hy := Ext.of_near hw1
    clear hw1
    have L1 := HL.out.ext hy; have H1 := HH.out.ext hy; have M1 := HM.out.ext hy; have X1 := HX.out.ext hy; have O1 := HO.out.ext hy
    have e1 := HE.out.trans hy
    clear hy
    have H3 := H1.cell; have fH := H1.frozen
    simp only [highA] at H3
    have HL := Lib.hid L1; have HH := Lib.hid H1; have HM := Lib.hid M1; have HX := Lib.hid X1; have HO := Lib.hid O1; have HE := Lib.hid e1
    clear L1 H1 M1 X1 O1 e1
    go_wp2
    go_roundw
    case rel =>
     exact ⟨2, by omega, rfl, HL.out.other (by simp only; omega) _, HH.out.set 1 (.int .i64 (min a.hi.y b.hi.y)), HM.out.other (by simp only; omega) _, HX.out.other (by simp only; omega) _, HO.out.other (by simp only; omega) _, HE.out.setCell (by simp only; omega) _⟩
    case measure => simp [intOf]
  · have L := hR.L.cell; have H := hR.H.cell; have M := hR.M.cell; have X := hR.X.cell
    have qL := hR.L.lt; have qH := hR.H.lt; have qM := hR.M.lt; have qX := hR.X.lt
    simp only [lowA, highA] at L H
    have HR := Lib.hid hR; clear hR
    go_wp2_with fail
    refine wp_region_near_tail 9 (by assumption) (by kernel_rfl) ?_
    simp only [List.take_succ_cons, List.take_zero, List.drop_succ_cons, List.drop_zero]
    repeat (go_big_quiet_step (fail))
    refine wpQuiet_nil ?_
    intro w1 hw1
    have hy := Ext.of_near hw1
    clear hw1
    have L1 := HR.out.L.ext hy; have H1 := HR.out.H.ext hy; have M1 := HR.out.M.ext hy; have X1 := HR.out.X.ext hy; have O1 := HR.out.O.ext hy
    have e1 := HR.out.ext.trans hy
    clear hy
    have V := Int.le_refl 0
    have L2 := L1.set 2 (.int .i64 (max a.lo.z b.lo.z))
    have H2 := H1.other (p := ⟨wa.heap.size, 2, none⟩) (by simp only; omega) (.int .i64 (max a.lo.z b.lo.z))
    have M2 := M1.other (p := ⟨wa.heap.size, 2, none⟩) (by simp only; omega) (.int .i64 (max a.lo.z b.lo.z))
    have X2 := X1.other (p := ⟨wa.heap.size, 2, none⟩) (by simp only; omega) (.int .i64 (max a.lo.z b.lo.z))
    have O2 := O1.other (p := ⟨wa.heap.size, 2, none⟩) (by simp only; omega) (.int .i64 (max a.lo.z b.lo.z))
    have e2 := e1.setCell (p := ⟨wa.heap.size, 2, none⟩) (by simp only; omega) (.int .i64 (max a.lo.z b.lo.z))
    have L3 := L1.cell; have fL := L1.frozen
    have H := H2.cell; have M := M2.cell; have X := X2.cell
    have qH := H2.lt; have qX := X2.lt
    simp only [World.size_setCell_] at qH qX
    simp only [lowA, highA] at L3 H
    have HL := Lib.hid L2; have HH := Lib.hid H2; have HM := Lib.hid M2; have HX := Lib.hid X2; have HO := Lib.hid O2; have HE := Lib.hid e2
    clear L1 H1 M1 X1 O1 e1 L2 H2 M2 X2 O2 e2 V
    go_wp2_with fail
    refine wp_region_near_tail 9 (by assumption) (by kernel_rfl) ?_
    simp only [List.take_succ_cons, List.take_zero, List.drop_succ_cons, List.drop_zero]
    repeat (go_big_quiet_step (fail))
    refine wpQuiet_nil ?_
    intro w1 hw1
    have hy := Ext.of_near hw1
    clear hw1
    have L1 := HL.out.ext hy; have H1 := HH.out.ext hy; have M1 := HM.out.ext hy; have X1 := HX.out.ext hy; have O1 := HO.out.ext hy
    have e1 := HE.out.trans hy
    clear hy
    have H3 := H1.cell; have fH := H1.frozen
    simp only [highA] at H3
    have HL := Lib.hid L1; have HH := Lib.hid H1; have HM := Lib.hid M1; have HX := Lib.hid X1; have HO := Lib.hid O1; have HE := Lib.hid e1
    clear L1 H1 M1 X1 O1 e1
    go_wp2
    go_roundw
    case rel =>
     exact ⟨3, by omega, rfl, HL.out.other (by simp only; omega) _, HH.out.set 2 (.int .i64 (min a.hi.z b.hi.z)), HM.out.other (by simp only; omega) _, HX.out.other (by simp only; omega) _, HO.out.other (by simp only; omega) _, HE.out.setCell (by simp only; omega) _⟩
    case measure => simp [intOf]
  · have HR := Lib.hid hR; clear hR
    go_wp2_with fail
    obtain ⟨i0, hi0, hz0, hz1, hz2⟩ := info_parts infoBox
    refine wp_region_box (interV a b wa.heap.size wb.heap.size) 5 27 10 50 4 [.int .i64 zeroBx.lo.x, .int .i64 zeroBx.lo.y, .int .i64 zeroBx.lo.z, .int .i64 zeroBx.hi.x, .int .i64 zeroBx.hi.y, .int .i64 zeroBx.hi.z] [.int .i64 (meetB a b).lo.x, .int .i64 (meetB a b).lo.y, .int .i64 (meetB a b).lo.z, .int .i64 (meetB a b).hi.x, .int .i64 (meetB a b).hi.y, .int .i64 (meetB a b).hi.z] (by assumption) (by kernel_rfl) (by kernel_rfl) (noGuard_spec (by kernel_rfl)) rfl ⟨_, rfl, rfl, rfl⟩
     ⟨_, rfl, rfl, rfl, ⟨⟨5, .data⟩, by simp, rfl, rfl⟩, ⟨⟨4, .data⟩, by simp, rfl, rfl⟩⟩ (by omega) rfl (by simp) (by simp) rfl ⟨i0, _, hi0, hz0, rfl⟩ (by kernel_rfl) rfl rfl ?_ ?_
    · intro listed w1 i o ho hin hdep hx1 b' K E0 E1 hK
      have hun : True := trivial
      match i, ho with
      | 0, ho =>
        injection ho with ho
        subst ho
        have e4 := E0 5 (by kernel_rfl)
        simp only [List.getElem?_toArray, List.getElem?_cons_zero, List.getElem?_cons_succ] at e4
        have hA := (HR.out.L).ext hx1
        simp only [lowA] at hA
        exact wp_load_row 102 (.tmp 5) rfl _ (by simp [Act.eval, Array.getD_eq_getD_getElem?, e4]) 102 _ (0, 0) _ hA Tryz.underlying102 rfl (by kernel_rfl) (hK w1 (Ext.refl _))
      | 2, ho =>
        injection ho with ho
        subst ho
        have e4 := E0 6 (by kernel_rfl)
        simp only [List.getElem?_toArray, List.getElem?_cons_zero, List.getElem?_cons_succ] at e4
        have hA := (HR.out.H).ext hx1
        simp only [highA] at hA
        exact wp_load_row 102 (.tmp 6) rfl _ (by simp [Act.eval, Array.getD_eq_getD_getElem?, e4]) 102 _ (0, 0) _ hA Tryz.underlying102 rfl (by kernel_rfl) (hK w1 (Ext.refl _))
      | 1, ho =>
        injection ho with ho
        subst ho
        have d1 := hdep ⟨0, .data⟩ (by simp) rfl
        have e4 := E1 0 46 (by decide) (getD_up d1) rfl (by simp)
        simp only [interV] at e4
        clear hdep E0 E1 hun
        unfold Oper.wp
        simp [e4, go_sem]
        refine (refof_any (meetB a b).lo _).mono ?_
        rintro e w2 ⟨rfl, hx2⟩
        exact hK w2 hx2
      | 3, ho =>
        injection ho with ho
        subst ho
        have d1 := hdep ⟨2, .data⟩ (by simp) rfl
        have e4 := E1 2 48 (by decide) (getD_up d1) rfl (by simp)
        simp only [interV] at e4
        clear hdep E0 E1 hun
        unfold Oper.wp
        simp [e4, go_sem]
        refine (refof_any (meetB a b).hi _).mono ?_
        rintro e w2 ⟨rfl, hx2⟩
        exact hK w2 hx2
      | 4, ho =>
        injection ho with ho
        subst ho
        have d1 := hdep ⟨1, .data⟩ (by simp) rfl
        have d3 := hdep ⟨3, .data⟩ (by simp) rfl
        have e4 := E1 1 47 (by decide) (getD_up d1) rfl (by simp)
        have e5 := E1 3 49 (by decide) (getD_up d3) rfl (by simp)
        simp only [interV] at e4 e5
        have hK2 := hK w1 (Ext.refl _)
        clear hdep E0 E1 hun
        unfold Oper.wp
        simp [execOp, e4, e5, go_sem]
        exact hK2
      | n + 5, ho => omega
    · intro g w1 hx1 hg hA
      simp only [List.length_cons, List.length_nil, fillAllN, dstOf, boxV, interV, Act.put, List.getElem?_toArray, List.getElem?_cons_zero, List.getElem?_cons_succ, Option.bind_some]
      have hO := (HR.out.O).ext hx1
      have he := HR.out.ext.trans hx1
      generalize emptyB (meetB a b) = be at HQ HI
      have HI2 := HI.out
      clear HR hm hG HR0
      simp
      go_wp2_with (first | (refine ldB 27 10 hA Tryz.underlying27 ?_) | (refine ldB 27 10 (hA.alloc _) Tryz.underlying27 ?_) | (refine ldB 27 10 ((hA.alloc _).alloc _) Tryz.underlying27 ?_))
      ((refine (HQ.out _).mono ?_); rintro e wx ⟨rfl, xx⟩; have xz := xx.size; (try simp only [World.size_alloc_, World.size_setCell_] at xz); obtain ⟨hA, chA, fhA, lhA⟩ := Arr.look (w' := wx) hA byX; obtain ⟨hO, chO, fhO, lhO⟩ := Arr.look (w' := wx) hO byX)
      cases be
      · have hi : interB a b = meetB a b := HI2
        have HI3 := Lib.hid hi
        clear HI2 hi HI
        go_wp2_with (first | (refine ldB 27 10 hA Tryz.underlying27 ?_) | (refine ldB 27 10 (hA.alloc _) Tryz.underlying27 ?_) | (refine ldB 27 10 ((hA.alloc _).alloc _) Tryz.underlying27 ?_) | (refine wpList_store_blk 27 (.tmp 4) (.tmp 55) rfl rfl hO [.int .i64 (meetB a b).lo.x, .int .i64 (meetB a b).lo.y, .int .i64 (meetB a b).lo.z, .int .i64 (meetB a b).hi.x, .int .i64 (meetB a b).hi.y, .int .i64 (meetB a b).hi.z] rfl rfl (by kernel_rfl) rfl rfl ?_))
        rw [HI3.out]
        have hO2 := hO.setRow [.int .i64 (meetB a b).lo.x, .int .i64 (meetB a b).lo.y, .int .i64 (meetB a b).lo.z, .int .i64 (meetB a b).hi.x, .int .i64 (meetB a b).hi.y, .int .i64 (meetB a b).hi.z]
        (try simp only [Exit.inBlock, Exit.then])
        refine bodyPost_ret (v := .agg #[.int .i64 (meetB a b).lo.x, .int .i64 (meetB a b).lo.y, .int .i64 (meetB a b).lo.z, .int .i64 (meetB a b).hi.x, .int .i64 (meetB a b).hi.y, .int .i64 (meetB a b).hi.z]) ?_ rfl ⟨rfl, byX⟩
        exact results_cell_row Tryz.results62 _ _ _ _ _ _ _ rfl hO2 Tryz.underlying27 rfl (by kernel_rfl)
      · have hi : interB a b = zeroBx := HI2
        have HI3 := Lib.hid hi
        clear HI2 hi HI
        go_wp2_with (first | (refine wpList_store_blk 27 (.tmp 4) (.tmp 54) rfl rfl hO [.int .i64 zeroBx.lo.x, .int .i64 zeroBx.lo.y, .int .i64 zeroBx.lo.z, .int .i64 zeroBx.hi.x, .int .i64 zeroBx.hi.y, .int .i64 zeroBx.hi.z] rfl rfl (by kernel_rfl) rfl rfl ?_))
        rw [HI3.out]
        have hO2 := hO.setRow [.int .i64 zeroBx.lo.x, .int .i64 zeroBx.lo.y, .int .i64 zeroBx.lo.z, .int .i64 zeroBx.hi.x, .int .i64 zeroBx.hi.y, .int .i64 zeroBx.hi.z]
        (try simp only [Exit.inBlock, Exit.then])
        refine bodyPost_ret (v := .agg #[.int .i64 zeroBx.lo.x, .int .i64 zeroBx.lo.y, .int .i64 zeroBx.lo.z, .int .i64 zeroBx.hi.x, .int .i64 zeroBx.hi.y, .int .i64 zeroBx.hi.z]) ?_ rfl ⟨rfl, byX⟩
        exact results_cell_row Tryz.results62 _ _ _ _ _ _ _ rfl hO2 Tryz.underlying27 rfl (by kernel_rfl)
end Go.Proofs.YtlinhgannajfpaaGreatDoor

/- Symmetries, on the reference's side: is, negates, order, turned. -/
namespace Go.Proofs.YtlinhgannajfpaaGreatDoor
open Go Go.RowKit

set_option maxHeartbeats 1000000 in
theorem refis_any (s : Int) (w : World) : Calls Tryz.prog 81 #[.int .i64 s] w fun e w' => e = .returned (.bool (isT s)) ∧ Ext w w' := by
 by_cases h1 : 0 ≤ s
 · go_enter Tryz.func81, Tryz.ntmps81
   go_wp2
   all_goals
    go_ret
    refine ⟨ret_bool ?_, Ext.refl _⟩
    rw [Bool.eq_iff_iff]
    simp [isT]
    try omega
 · go_enter Tryz.func81, Tryz.ntmps81
   go_wp2
   all_goals
    go_ret
    refine ⟨ret_bool ?_, Ext.refl _⟩
    rw [Bool.eq_iff_iff]
    simp [isT]
    try omega
set_option maxHeartbeats 1000000 in
theorem negates_any (s k : Int) (hs : 0 ≤ s ∧ s < 48) (hk : 0 ≤ k ∧ k < 3) (w : World) : Calls Tryz.prog 119 #[.int .i64 s, .int .i64 k] w fun e w' => e = .returned (.bool (ngI s k)) ∧ Ext w w' := by
 have hq0 : s.tmod 2 = s % 2 := Int.tmod_eq_emod_of_nonneg hs.1
 have hq1 : (s / 2).tmod 2 = s / 2 % 2 := Int.tmod_eq_emod_of_nonneg (by omega)
 have hq2 : (s / 4).tmod 2 = s / 4 % 2 := Int.tmod_eq_emod_of_nonneg (by omega)
 obtain rfl | rfl | rfl : k = 0 ∨ k = 1 ∨ k = 2 := by omega
 all_goals
  go_enter Tryz.func119, Tryz.ntmps119
  go_wp2
  go_ret
  refine ⟨ret_bool ?_, Ext.refl _⟩
  unfold ngI
  rw [Bool.eq_iff_iff]
  simp
  try omega
set_option maxHeartbeats 4000000 in
theorem rOrder_any (q : Int) (hq : 0 ≤ q ∧ q < 6) (w : World) : Calls Tryz.prog 118 #[.int .i64 q] w fun e w' => e = .returned (.agg #[.int .i64 (axQ q 0), .int .i64 (axQ q 1), .int .i64 (axQ q 2)]) ∧ Ext w w' := by
 obtain rfl | rfl | rfl | rfl | rfl | rfl : q = 0 ∨ q = 1 ∨ q = 2 ∨ q = 3 ∨ q = 4 ∨ q = 5 := by omega
 · have h : (axQ 0 0, axQ 0 1, axQ 0 2) = (0, 1, 2) := by decide +kernel
   injection h with h0 h; injection h with h1 h2
   rw [h0, h1, h2]
   clear h0 h1 h2
   go_enter Tryz.func118, Tryz.ntmps118
   go_wp2
   refine bodyPost_ret (v := .agg #[.int .i64 0, .int .i64 1, .int .i64 2]) ?_ rfl ?_
   · simp (maxDischargeDepth := 9) only [results, Tryz.results118]
     first
      | (go_simp; done)
      | (go_simp; simp; done)
      | (simp (maxDischargeDepth := 9) [go_sem, *]; done)
      | (simp (maxDischargeDepth := 9) [go_sem, *]; simp)
   · exact ⟨rfl, byX⟩
 · have h : (axQ 1 0, axQ 1 1, axQ 1 2) = (0, 2, 1) := by decide +kernel
   injection h with h0 h; injection h with h1 h2
   rw [h0, h1, h2]
   clear h0 h1 h2
   go_enter Tryz.func118, Tryz.ntmps118
   go_wp2
   refine bodyPost_ret (v := .agg #[.int .i64 0, .int .i64 2, .int .i64 1]) ?_ rfl ?_
   · simp (maxDischargeDepth := 9) only [results, Tryz.results118]
     first
      | (go_simp; done)
      | (go_simp; simp; done)
      | (simp (maxDischargeDepth := 9) [go_sem, *]; done)
      | (simp (maxDischargeDepth := 9) [go_sem, *]; simp)
   · exact ⟨rfl, byX⟩
 · have h : (axQ 2 0, axQ 2 1, axQ 2 2) = (1, 0, 2) := by decide +kernel
   injection h with h0 h; injection h with h1 h2
   rw [h0, h1, h2]
   clear h0 h1 h2
   go_enter Tryz.func118, Tryz.ntmps118
   go_wp2
   refine bodyPost_ret (v := .agg #[.int .i64 1, .int .i64 0, .int .i64 2]) ?_ rfl ?_
   · simp (maxDischargeDepth := 9) only [results, Tryz.results118]
     first
      | (go_simp; done)
      | (go_simp; simp; done)
      | (simp (maxDischargeDepth := 9) [go_sem, *]; done)
      | (simp (maxDischargeDepth := 9) [go_sem, *]; simp)
   · exact ⟨rfl, byX⟩
 · have h : (axQ 3 0, axQ 3 1, axQ 3 2) = (1, 2, 0) := by decide +kernel
   injection h with h0 h; injection h with h1 h2
   rw [h0, h1, h2]
   clear h0 h1 h2
   go_enter Tryz.func118, Tryz.ntmps118
   go_wp2
   refine bodyPost_ret (v := .agg #[.int .i64 1, .int .i64 2, .int .i64 0]) ?_ rfl ?_
   · simp (maxDischargeDepth := 9) only [results, Tryz.results118]
     first
      | (go_simp; done)
      | (go_simp; simp; done)
      | (simp (maxDischargeDepth := 9) [go_sem, *]; done)
      | (simp (maxDischargeDepth := 9) [go_sem, *]; simp)
   · exact ⟨rfl, byX⟩
 · have h : (axQ 4 0, axQ 4 1, axQ 4 2) = (2, 0, 1) := by decide +kernel
   injection h with h0 h; injection h with h1 h2
   rw [h0, h1, h2]
   clear h0 h1 h2
   go_enter Tryz.func118, Tryz.ntmps118
   go_wp2
   refine bodyPost_ret (v := .agg #[.int .i64 2, .int .i64 0, .int .i64 1]) ?_ rfl ?_
   · simp (maxDischargeDepth := 9) only [results, Tryz.results118]
     first
      | (go_simp; done)
      | (go_simp; simp; done)
      | (simp (maxDischargeDepth := 9) [go_sem, *]; done)
      | (simp (maxDischargeDepth := 9) [go_sem, *]; simp)
   · exact ⟨rfl, byX⟩
 · have h : (axQ 5 0, axQ 5 1, axQ 5 2) = (2, 1, 0) := by decide +kernel
   injection h with h0 h; injection h with h1 h2
   rw [h0, h1, h2]
   clear h0 h1 h2
   go_enter Tryz.func118, Tryz.ntmps118
   go_wp2
   refine bodyPost_ret (v := .agg #[.int .i64 2, .int .i64 1, .int .i64 0]) ?_ rfl ?_
   · simp (maxDischargeDepth := 9) only [results, Tryz.results118]
     first
      | (go_simp; done)
      | (go_simp; simp; done)
      | (simp (maxDischargeDepth := 9) [go_sem, *]; done)
      | (simp (maxDischargeDepth := 9) [go_sem, *]; simp)
   · exact ⟨rfl, byX⟩
def rtI (s less : Int) (p : Pt) (k : Int) : Int := if ngI s k then wrap64 (wrap64 (-(cdP p (axI s k))) - less) else cdP p (axI s k)
def rturnP (s less : Int) (p : Pt) : Pt := if isT s then ⟨rtI s less p 0, rtI s less p 1, rtI s less p 2⟩ else p
structure TurR (n2 nC nA nO : Nat) (p : Pt) (a0 a1 a2 : Int) (vs : List Value) (w wr : World) : Prop where
 R : Arr wr n2 25 [.int .i64 0, .int .i64 0, .int .i64 0]
 C : Arr wr nC 102 [.int .i64 p.x, .int .i64 p.y, .int .i64 p.z]
 A : Arr wr nA 102 [.int .i64 a0, .int .i64 a1, .int .i64 a2]
 O : Arr wr nO 102 vs
 ext : Ext w wr
theorem TurR.next {n2 nC nA nO : Nat} {p : Pt} {a0 a1 a2 : Int} {vs : List Value} {w wr w' : World} (h : TurR n2 nC nA nO p a0 a1 a2 vs w wr) (hx : Ext wr w') : TurR n2 nC nA nO p a0 a1 a2 vs w w' := ⟨h.R.ext hx, h.C.ext hx, h.A.ext hx, h.O.ext hx, h.ext.trans hx⟩
theorem TurR.set {n2 nC nA nO : Nat} {p : Pt} {a0 a1 a2 : Int} {vs : List Value} {w wr : World} (h : TurR n2 nC nA nO p a0 a1 a2 vs w wr) (h2 : n2 < nO) (hC : nC < nO) (hA : nA < nO) (hw : w.heap.size ≤ nO) (j : Nat) (v : Value) : TurR n2 nC nA nO p a0 a1 a2 (vs.set j v) w (wr.setCell ⟨nO, j, none⟩ v) :=
 ⟨h.R.other (by simp only; omega) _, h.C.other (by simp only; omega) _, h.A.other (by simp only; omega) _, h.O.set j v, h.ext.setCell hw _⟩
def turV (r0 r1 r2 : Int) : Nat → List Value
 | 0 => [.int .i64 0, .int .i64 0, .int .i64 0]
 | 1 => [.int .i64 r0, .int .i64 0, .int .i64 0]
 | 2 => [.int .i64 r0, .int .i64 r1, .int .i64 0]
 | _ => [.int .i64 r0, .int .i64 r1, .int .i64 r2]
theorem rtI_def (s less : Int) (p : Pt) (k : Int) {a : Int} {n : Bool} (ha : axI s k = a) (hn : ngI s k = n) : rtI s less p k = if n then wrap64 (wrap64 (-(cdP p a)) - less) else cdP p a := by unfold rtI; rw [ha, hn]
set_option maxRecDepth 100000 in
set_option maxHeartbeats 16000000 in
theorem turned_any (s less : Int) (p : Pt) (w : World) : Calls Tryz.prog 83 #[.int .i64 s, .agg #[.int .i64 p.x, .int .i64 p.y, .int .i64 p.z], .int .i64 less] w fun e w' => e = .returned (.agg #[.int .i64 (rturnP s less p).x, .int .i64 (rturnP s less p).y, .int .i64 (rturnP s less p).z]) ∧ Ext w w' := by
 obtain ⟨W0, hW⟩ : ∃ W, W = (w.alloc (.cells #[.int .i64 p.x, .int .i64 p.y, .int .i64 p.z] 25)).alloc (.cells #[.int .i64 0, .int .i64 0, .int .i64 0] 25) := ⟨_, rfl⟩
 have HX0 := Lib.hid (show Ext w W0 by rw [hW]; exact ((Ext.refl w).alloc _).alloc _)
 have HP0 := Lib.hid (show Arr W0 w.heap.size 25 [.int .i64 p.x, .int .i64 p.y, .int .i64 p.z] by rw [hW]; exact (Arr.new w _ [.int .i64 p.x, .int .i64 p.y, .int .i64 p.z]).alloc _)
 have HR0 := Lib.hid (show Arr W0 (w.heap.size + 1) 25 [.int .i64 0, .int .i64 0, .int .i64 0] by rw [hW]; exact Arr.new1 w _ _ [.int .i64 0, .int .i64 0, .int .i64 0])
 have HI := Lib.hid (refis_any s)
 unfold isT at HI
 by_cases h : 0 ≤ s ∧ s < 48
 · have HD := Lib.hid (show rturnP s less p = ⟨rtI s less p 0, rtI s less p 1, rtI s less p 2⟩ by unfold rturnP isT; rw [decide_eq_true h]; rfl)
   rw [HD.out]
   rw [decide_eq_true h] at HI
   have HN0 := Lib.hid (negates_any s 0 h (by omega)); have HN1 := Lib.hid (negates_any s 1 h (by omega)); have HN2 := Lib.hid (negates_any s 2 h (by omega))
   have HO := Lib.hid (rOrder_any (s / 8) (by omega))
   have b0 := axI_in s 0 h (by omega); have b1 := axI_in s 1 h (by omega); have b2 := axI_in s 2 h (by omega)
   have d0 := fun (a : Int) (n : Bool) (ha : axI s 0 = a) (hn : ngI s 0 = n) => rtI_def s less p 0 ha hn
   have d1 := fun (a : Int) (n : Bool) (ha : axI s 1 = a) (hn : ngI s 1 = n) => rtI_def s less p 1 ha hn
   have d2 := fun (a : Int) (n : Bool) (ha : axI s 2 = a) (hn : ngI s 2 = n) => rtI_def s less p 2 ha hn
   have hq : s.tdiv 8 = s / 8 := Int.tdiv_eq_ediv_of_nonneg h.1
   have hwq : wrap64 (s / 8) = s / 8 := by unfold wrap64; omega
   generalize rtI s less p 0 = r0 at d0 ⊢
   generalize rtI s less p 1 = r1 at d1 ⊢
   generalize rtI s less p 2 = r2 at d2 ⊢
   generalize ngI s 0 = n0 at HN0 d0
   generalize ngI s 1 = n1 at HN1 d1
   generalize ngI s 2 = n2 at HN2 d2
   unfold axI at b0 b1 b2 d0 d1 d2
   generalize s / 8 = q at HO b0 b1 b2 d0 d1 d2 hq hwq
   generalize axQ q 0 = a0 at HO b0 d0
   generalize axQ q 1 = a1 at HO b1 d1
   generalize axQ q 2 = a2 at HO b2 d2
   replace d0 := d0 _ _ rfl rfl; replace d1 := d1 _ _ rfl rfl; replace d2 := d2 _ _ rfl rfl
   have B0 := Lib.hid b0; have B1 := Lib.hid b1; have B2 := Lib.hid b2
   have D0 := Lib.hid d0; have D1 := Lib.hid d1; have D2 := Lib.hid d2
   clear b0 b1 b2 d0 d1 d2 h HD
   go_enter Tryz.func83, Tryz.ntmps83
   go_upto_region 1 with fail
   rw [← hW]
   clear hW
   go_upto_region 5 with (first
    | (go_at_call 81; refine (HI.out _).mono ?_; rintro e W1 ⟨rfl, hx⟩; have HP1 := Lib.hid (HP0.out.ext hx); have HR1 := Lib.hid (HR0.out.ext hx); have HX1 := Lib.hid (HX0.out.trans hx); clear hx)
    | (refine ldB 25 4 HP1.out Tryz.underlying25 ?_) | (refine ldB 25 4 (HP1.out.alloc _) Tryz.underlying25 ?_) | (refine ldB 25 4 ((HP1.out.alloc _).alloc _) Tryz.underlying25 ?_)
    | (go_at_call 97; refine (reflist_any p _).mono ?_; rintro e W2 ⟨rfl, hx⟩; have HR2 := Lib.hid (HR1.out.ext hx); have HX2 := Lib.hid (HX1.out.trans hx); clear hx)
    | (refine wpList_store_blk2 102 (.tmp 8) (.tmp 19) rfl rfl (Arr.new W2 102 [.int .i64 0, .int .i64 0, .int .i64 0]) [.int .i64 p.x, .int .i64 p.y, .int .i64 p.z] rfl rfl (by kernel_rfl) rfl rfl rfl ?_; intro W3 hW3; have HC3 := Lib.hid (show Arr W3 W2.heap.size 102 [.int .i64 p.x, .int .i64 p.y, .int .i64 p.z] by rw [hW3]; exact (Arr.new W2 _ _).setRow _); have HX3 := Lib.hid (show Ext w W3 by rw [hW3]; exact (HX2.out.alloc _).setRow (g := W2.heap.size) HX2.out.size _); have HR3 := Lib.hid (show Arr W3 (w.heap.size + 1) 25 [.int .i64 0, .int .i64 0, .int .i64 0] by rw [hW3]; exact (HR2.out.alloc _).setRow_other (by have := HR2.out.lt; omega) _); clear hW3)
    )
   have hl3 := HC3.out.lt
   obtain ⟨nC, hC⟩ : ∃ n, n = W2.heap.size := ⟨_, rfl⟩
   rw [← hC] at HC3 hl3 ⊢
   clear hC
   go_upto_region 6 with (first
    | (go_at_call 118; refine (HO.out _).mono ?_; rintro e W4 ⟨rfl, hx⟩; have HR4 := Lib.hid (HR3.out.ext hx); have HC4 := Lib.hid (HC3.out.ext hx); have HX4 := Lib.hid (HX3.out.trans hx); clear hx)
    | (refine wpList_store_blk2 102 (.tmp 9) (.tmp 22) rfl rfl (Arr.new W4 102 [.int .i64 0, .int .i64 0, .int .i64 0]) [.int .i64 a0, .int .i64 a1, .int .i64 a2] rfl rfl (by kernel_rfl) rfl rfl rfl ?_; intro W5 hW5; have HA5 := Lib.hid (show Arr W5 W4.heap.size 102 [.int .i64 a0, .int .i64 a1, .int .i64 a2] by rw [hW5]; exact (Arr.new W4 _ _).setRow _); have HX5 := Lib.hid (show Ext w W5 by rw [hW5]; exact (HX4.out.alloc _).setRow (g := W4.heap.size) HX4.out.size _); have HR5 := Lib.hid (show Arr W5 (w.heap.size + 1) 25 [.int .i64 0, .int .i64 0, .int .i64 0] by rw [hW5]; exact (HR4.out.alloc _).setRow_other (by have := HR4.out.lt; omega) _); have HC5 := Lib.hid (show Arr W5 nC 102 [.int .i64 p.x, .int .i64 p.y, .int .i64 p.z] by rw [hW5]; exact (HC4.out.alloc _).setRow_other (by have := HC4.out.lt; omega) _); have hl45 := Lib.hid (show nC < W4.heap.size from HC4.out.lt); clear hW5))
   clear hq hwq
   have hl5 := HA5.out.lt
   obtain ⟨nA, hA⟩ : ∃ n, n = W4.heap.size := ⟨_, rfl⟩
   rw [← hA] at HA5 hl5 hl45 ⊢
   clear hA
   obtain ⟨nO, hO⟩ : ∃ n, n = W5.heap.size := ⟨_, rfl⟩
   have hlAO := Lib.hid (show nA < nO by omega)
   have hl2 := Lib.hid (show w.heap.size + 1 < nO by have := HR5.out.lt; omega)
   have hlC := Lib.hid (show nC < nO by have := HC5.out.lt; omega)
   have hlw := Lib.hid (show w.heap.size ≤ nO by have := hl2.out; omega)
   have HT0 := Lib.hid (TurR.mk (HR5.out.alloc _) (HC5.out.alloc _) (HA5.out.alloc _) (by rw [hO]; exact Arr.new W5 102 [.int .i64 0, .int .i64 0, .int .i64 0]) (HX5.out.alloc _) : TurR (w.heap.size + 1) nC nA nO p a0 a1 a2 (turV r0 r1 r2 0) w (W5.alloc (.cells #[.int .i64 0, .int .i64 0, .int .i64 0] 102)))
   clear hl5
   go_upto_region 7 with fail
   rw [← hO]
   clear hO
   obtain ⟨W6, hW6⟩ : ∃ W, W = W5.alloc (.cells #[.int .i64 0, .int .i64 0, .int .i64 0] 102) := ⟨_, rfl⟩
   rw [← hW6] at HT0 ⊢
   clear hW6
   go_upto_region 8 with fail
   go_loopw [11] (fun i wr => ∃ k : Nat, k ≤ 3 ∧ i = .int .i64 k ∧ TurR (w.heap.size + 1) nC nA nO p a0 a1 a2 (turV r0 r1 r2 k) w wr) (fun i _ => 3 - (intOf i).toNat)
   case atStart => exact ⟨0, by omega, rfl, HT0.out⟩
   case round =>
    obtain ⟨k, hk, rfl, hR⟩ := hrel
    have HR := Lib.hid hR
    clear hR HT0
    obtain rfl | rfl | rfl | rfl : k = 0 ∨ k = 1 ∨ k = 2 ∨ k = 3 := by omega
    · have b := B0.out
      have C := HR.out.C.cell; have A := HR.out.A.cell; have O := HR.out.O.cell; have fO := HR.out.O.frozen
      have lC := HR.out.C.lt; have lA := HR.out.A.lt; have lO := HR.out.O.lt
      simp only [turV] at O
      have HD := Lib.hid D0.out
      have HN := Lib.hid HN0.out
      clear HN0 HN1 HN2 D0 D1 D2 B0 B1 B2
      obtain rfl | rfl | rfl : a0 = 0 ∨ a0 = 1 ∨ a0 = 2 := by omega
      · obtain ⟨W7, hW7⟩ : ∃ W, W = wr.setCell ⟨nO, 0, none⟩ (.int .i64 p.x) := ⟨_, rfl⟩
        have HR7 := Lib.hid (show TurR (w.heap.size + 1) nC nA nO p _ _ _ _ w W7 by rw [hW7]; exact HR.out.set hl2.out hlC.out hlAO.out hlw.out 0 (.int .i64 p.x))
        cases n0
        · go_upto_region 11 with fail
          rw [← hW7]
          clear hW7 C A O fO lC lA lO HR
          go_wp2_with (first
           | (go_at_call 119; refine (HN.out _).mono ?_; rintro e W8 ⟨rfl, hx⟩; have HR8 := Lib.hid (HR7.out.next hx); clear hx))
          go_roundw
          case rel => exact ⟨1, by omega, rfl, by have h := HR8.out; have e := HD.out; simp only [turV, List.set_cons_zero] at h ⊢; rw [e]; exact h⟩
          case measure => simp [intOf]
        · go_upto_region 11 with fail
          rw [← hW7]
          clear hW7 C A O fO lC lA lO HR
          go_upto_region 13 with (first
           | (go_at_call 119; refine (HN.out _).mono ?_; rintro e W8 ⟨rfl, hx⟩; have HR8 := Lib.hid (HR7.out.next hx); clear hx))
          have O := HR8.out.O.cell; have fO := HR8.out.O.frozen; have lO := HR8.out.O.lt
          simp only [turV, List.set_cons_zero] at O
          go_wp2_with fail
          go_roundw
          case rel => exact ⟨1, by omega, rfl, by have h := HR8.out.set hl2.out hlC.out hlAO.out hlw.out 0 (.int .i64 (wrap64 (wrap64 (-p.x) - less))); have e := HD.out; simp only [turV, List.set_cons_zero] at h ⊢; rw [e]; exact h⟩
          case measure => simp [intOf]
      · obtain ⟨W7, hW7⟩ : ∃ W, W = wr.setCell ⟨nO, 0, none⟩ (.int .i64 p.y) := ⟨_, rfl⟩
        have HR7 := Lib.hid (show TurR (w.heap.size + 1) nC nA nO p _ _ _ _ w W7 by rw [hW7]; exact HR.out.set hl2.out hlC.out hlAO.out hlw.out 0 (.int .i64 p.y))
        cases n0
        · go_upto_region 11 with fail
          rw [← hW7]
          clear hW7 C A O fO lC lA lO HR
          go_wp2_with (first
           | (go_at_call 119; refine (HN.out _).mono ?_; rintro e W8 ⟨rfl, hx⟩; have HR8 := Lib.hid (HR7.out.next hx); clear hx))
          go_roundw
          case rel => exact ⟨1, by omega, rfl, by have h := HR8.out; have e := HD.out; simp only [turV, List.set_cons_zero] at h ⊢; rw [e]; exact h⟩
          case measure => simp [intOf]
        · go_upto_region 11 with fail
          rw [← hW7]
          clear hW7 C A O fO lC lA lO HR
          go_upto_region 13 with (first
           | (go_at_call 119; refine (HN.out _).mono ?_; rintro e W8 ⟨rfl, hx⟩; have HR8 := Lib.hid (HR7.out.next hx); clear hx))
          have O := HR8.out.O.cell; have fO := HR8.out.O.frozen; have lO := HR8.out.O.lt
          simp only [turV, List.set_cons_zero] at O
          go_wp2_with fail
          go_roundw
          case rel => exact ⟨1, by omega, rfl, by have h := HR8.out.set hl2.out hlC.out hlAO.out hlw.out 0 (.int .i64 (wrap64 (wrap64 (-p.y) - less))); have e := HD.out; simp only [turV, List.set_cons_zero] at h ⊢; rw [e]; exact h⟩
          case measure => simp [intOf]
      · obtain ⟨W7, hW7⟩ : ∃ W, W = wr.setCell ⟨nO, 0, none⟩ (.int .i64 p.z) := ⟨_, rfl⟩
        have HR7 := Lib.hid (show TurR (w.heap.size + 1) nC nA nO p _ _ _ _ w W7 by rw [hW7]; exact HR.out.set hl2.out hlC.out hlAO.out hlw.out 0 (.int .i64 p.z))
        cases n0
        · go_upto_region 11 with fail
          rw [← hW7]
          clear hW7 C A O fO lC lA lO HR
          go_wp2_with (first
           | (go_at_call 119; refine (HN.out _).mono ?_; rintro e W8 ⟨rfl, hx⟩; have HR8 := Lib.hid (HR7.out.next hx); clear hx))
          go_roundw
          case rel => exact ⟨1, by omega, rfl, by have h := HR8.out; have e := HD.out; simp only [turV, List.set_cons_zero] at h ⊢; rw [e]; exact h⟩
          case measure => simp [intOf]
        · go_upto_region 11 with fail
          rw [← hW7]
          clear hW7 C A O fO lC lA lO HR
          go_upto_region 13 with (first
           | (go_at_call 119; refine (HN.out _).mono ?_; rintro e W8 ⟨rfl, hx⟩; have HR8 := Lib.hid (HR7.out.next hx); clear hx))
          have O := HR8.out.O.cell; have fO := HR8.out.O.frozen; have lO := HR8.out.O.lt
          simp only [turV, List.set_cons_zero] at O
          go_wp2_with fail
          go_roundw
          case rel => exact ⟨1, by omega, rfl, by have h := HR8.out.set hl2.out hlC.out hlAO.out hlw.out 0 (.int .i64 (wrap64 (wrap64 (-p.z) - less))); have e := HD.out; simp only [turV, List.set_cons_zero] at h ⊢; rw [e]; exact h⟩
          case measure => simp [intOf]
    · have b := B1.out
      have C := HR.out.C.cell; have A := HR.out.A.cell; have O := HR.out.O.cell; have fO := HR.out.O.frozen
      have lC := HR.out.C.lt; have lA := HR.out.A.lt; have lO := HR.out.O.lt
      simp only [turV] at O
      have HD := Lib.hid D1.out
      have HN := Lib.hid HN1.out
      clear HN0 HN1 HN2 D0 D1 D2 B0 B1 B2
      obtain rfl | rfl | rfl : a1 = 0 ∨ a1 = 1 ∨ a1 = 2 := by omega
      · obtain ⟨W7, hW7⟩ : ∃ W, W = wr.setCell ⟨nO, 1, none⟩ (.int .i64 p.x) := ⟨_, rfl⟩
        have HR7 := Lib.hid (show TurR (w.heap.size + 1) nC nA nO p _ _ _ _ w W7 by rw [hW7]; exact HR.out.set hl2.out hlC.out hlAO.out hlw.out 1 (.int .i64 p.x))
        cases n1
        · go_upto_region 11 with fail
          rw [← hW7]
          clear hW7 C A O fO lC lA lO HR
          go_wp2_with (first
           | (go_at_call 119; refine (HN.out _).mono ?_; rintro e W8 ⟨rfl, hx⟩; have HR8 := Lib.hid (HR7.out.next hx); clear hx))
          go_roundw
          case rel => exact ⟨2, by omega, rfl, by have h := HR8.out; have e := HD.out; simp only [turV, List.set_cons_zero, List.set_cons_succ] at h ⊢; rw [e]; exact h⟩
          case measure => simp [intOf]
        · go_upto_region 11 with fail
          rw [← hW7]
          clear hW7 C A O fO lC lA lO HR
          go_upto_region 13 with (first
           | (go_at_call 119; refine (HN.out _).mono ?_; rintro e W8 ⟨rfl, hx⟩; have HR8 := Lib.hid (HR7.out.next hx); clear hx))
          have O := HR8.out.O.cell; have fO := HR8.out.O.frozen; have lO := HR8.out.O.lt
          simp only [turV, List.set_cons_zero, List.set_cons_succ] at O
          go_wp2_with fail
          go_roundw
          case rel => exact ⟨2, by omega, rfl, by have h := HR8.out.set hl2.out hlC.out hlAO.out hlw.out 1 (.int .i64 (wrap64 (wrap64 (-p.x) - less))); have e := HD.out; simp only [turV, List.set_cons_zero, List.set_cons_succ] at h ⊢; rw [e]; exact h⟩
          case measure => simp [intOf]
      · obtain ⟨W7, hW7⟩ : ∃ W, W = wr.setCell ⟨nO, 1, none⟩ (.int .i64 p.y) := ⟨_, rfl⟩
        have HR7 := Lib.hid (show TurR (w.heap.size + 1) nC nA nO p _ _ _ _ w W7 by rw [hW7]; exact HR.out.set hl2.out hlC.out hlAO.out hlw.out 1 (.int .i64 p.y))
        cases n1
        · go_upto_region 11 with fail
          rw [← hW7]
          clear hW7 C A O fO lC lA lO HR
          go_wp2_with (first
           | (go_at_call 119; refine (HN.out _).mono ?_; rintro e W8 ⟨rfl, hx⟩; have HR8 := Lib.hid (HR7.out.next hx); clear hx))
          go_roundw
          case rel => exact ⟨2, by omega, rfl, by have h := HR8.out; have e := HD.out; simp only [turV, List.set_cons_zero, List.set_cons_succ] at h ⊢; rw [e]; exact h⟩
          case measure => simp [intOf]
        · go_upto_region 11 with fail
          rw [← hW7]
          clear hW7 C A O fO lC lA lO HR
          go_upto_region 13 with (first
           | (go_at_call 119; refine (HN.out _).mono ?_; rintro e W8 ⟨rfl, hx⟩; have HR8 := Lib.hid (HR7.out.next hx); clear hx))
          have O := HR8.out.O.cell; have fO := HR8.out.O.frozen; have lO := HR8.out.O.lt
          simp only [turV, List.set_cons_zero, List.set_cons_succ] at O
          go_wp2_with fail
          go_roundw
          case rel => exact ⟨2, by omega, rfl, by have h := HR8.out.set hl2.out hlC.out hlAO.out hlw.out 1 (.int .i64 (wrap64 (wrap64 (-p.y) - less))); have e := HD.out; simp only [turV, List.set_cons_zero, List.set_cons_succ] at h ⊢; rw [e]; exact h⟩
          case measure => simp [intOf]
      · obtain ⟨W7, hW7⟩ : ∃ W, W = wr.setCell ⟨nO, 1, none⟩ (.int .i64 p.z) := ⟨_, rfl⟩
        have HR7 := Lib.hid (show TurR (w.heap.size + 1) nC nA nO p _ _ _ _ w W7 by rw [hW7]; exact HR.out.set hl2.out hlC.out hlAO.out hlw.out 1 (.int .i64 p.z))
        cases n1
        · go_upto_region 11 with fail
          rw [← hW7]
          clear hW7 C A O fO lC lA lO HR
          go_wp2_with (first
           | (go_at_call 119; refine (HN.out _).mono ?_; rintro e W8 ⟨rfl, hx⟩; have HR8 := Lib.hid (HR7.out.next hx); clear hx))
          go_roundw
          case rel => exact ⟨2, by omega, rfl, by have h := HR8.out; have e := HD.out; simp only [turV, List.set_cons_zero, List.set_cons_succ] at h ⊢; rw [e]; exact h⟩
          case measure => simp [intOf]
        · go_upto_region 11 with fail
          rw [← hW7]
          clear hW7 C A O fO lC lA lO HR
          go_upto_region 13 with (first
           | (go_at_call 119; refine (HN.out _).mono ?_; rintro e W8 ⟨rfl, hx⟩; have HR8 := Lib.hid (HR7.out.next hx); clear hx))
          have O := HR8.out.O.cell; have fO := HR8.out.O.frozen; have lO := HR8.out.O.lt
          simp only [turV, List.set_cons_zero, List.set_cons_succ] at O
          go_wp2_with fail
          go_roundw
          case rel => exact ⟨2, by omega, rfl, by have h := HR8.out.set hl2.out hlC.out hlAO.out hlw.out 1 (.int .i64 (wrap64 (wrap64 (-p.z) - less))); have e := HD.out; simp only [turV, List.set_cons_zero, List.set_cons_succ] at h ⊢; rw [e]; exact h⟩
          case measure => simp [intOf]
    · have b := B2.out
      have C := HR.out.C.cell; have A := HR.out.A.cell; have O := HR.out.O.cell; have fO := HR.out.O.frozen
      have lC := HR.out.C.lt; have lA := HR.out.A.lt; have lO := HR.out.O.lt
      simp only [turV] at O
      have HD := Lib.hid D2.out
      have HN := Lib.hid HN2.out
      clear HN0 HN1 HN2 D0 D1 D2 B0 B1 B2
      obtain rfl | rfl | rfl : a2 = 0 ∨ a2 = 1 ∨ a2 = 2 := by omega
      · obtain ⟨W7, hW7⟩ : ∃ W, W = wr.setCell ⟨nO, 2, none⟩ (.int .i64 p.x) := ⟨_, rfl⟩
        have HR7 := Lib.hid (show TurR (w.heap.size + 1) nC nA nO p _ _ _ _ w W7 by rw [hW7]; exact HR.out.set hl2.out hlC.out hlAO.out hlw.out 2 (.int .i64 p.x))
        cases n2
        · go_upto_region 11 with fail
          rw [← hW7]
          clear hW7 C A O fO lC lA lO HR
          go_wp2_with (first
           | (go_at_call 119; refine (HN.out _).mono ?_; rintro e W8 ⟨rfl, hx⟩; have HR8 := Lib.hid (HR7.out.next hx); clear hx))
          go_roundw
          case rel => exact ⟨3, by omega, rfl, by have h := HR8.out; have e := HD.out; simp only [turV, List.set_cons_zero, List.set_cons_succ] at h ⊢; rw [e]; exact h⟩
          case measure => simp [intOf]
        · go_upto_region 11 with fail
          rw [← hW7]
          clear hW7 C A O fO lC lA lO HR
          go_upto_region 13 with (first
           | (go_at_call 119; refine (HN.out _).mono ?_; rintro e W8 ⟨rfl, hx⟩; have HR8 := Lib.hid (HR7.out.next hx); clear hx))
          have O := HR8.out.O.cell; have fO := HR8.out.O.frozen; have lO := HR8.out.O.lt
          simp only [turV, List.set_cons_zero, List.set_cons_succ] at O
          go_wp2_with fail
          go_roundw
          case rel => exact ⟨3, by omega, rfl, by have h := HR8.out.set hl2.out hlC.out hlAO.out hlw.out 2 (.int .i64 (wrap64 (wrap64 (-p.x) - less))); have e := HD.out; simp only [turV, List.set_cons_zero, List.set_cons_succ] at h ⊢; rw [e]; exact h⟩
          case measure => simp [intOf]
      · obtain ⟨W7, hW7⟩ : ∃ W, W = wr.setCell ⟨nO, 2, none⟩ (.int .i64 p.y) := ⟨_, rfl⟩
        have HR7 := Lib.hid (show TurR (w.heap.size + 1) nC nA nO p _ _ _ _ w W7 by rw [hW7]; exact HR.out.set hl2.out hlC.out hlAO.out hlw.out 2 (.int .i64 p.y))
        cases n2
        · go_upto_region 11 with fail
          rw [← hW7]
          clear hW7 C A O fO lC lA lO HR
          go_wp2_with (first
           | (go_at_call 119; refine (HN.out _).mono ?_; rintro e W8 ⟨rfl, hx⟩; have HR8 := Lib.hid (HR7.out.next hx); clear hx))
          go_roundw
          case rel => exact ⟨3, by omega, rfl, by have h := HR8.out; have e := HD.out; simp only [turV, List.set_cons_zero, List.set_cons_succ] at h ⊢; rw [e]; exact h⟩
          case measure => simp [intOf]
        · go_upto_region 11 with fail
          rw [← hW7]
          clear hW7 C A O fO lC lA lO HR
          go_upto_region 13 with (first
           | (go_at_call 119; refine (HN.out _).mono ?_; rintro e W8 ⟨rfl, hx⟩; have HR8 := Lib.hid (HR7.out.next hx); clear hx))
          have O := HR8.out.O.cell; have fO := HR8.out.O.frozen; have lO := HR8.out.O.lt
          simp only [turV, List.set_cons_zero, List.set_cons_succ] at O
          go_wp2_with fail
          go_roundw
          case rel => exact ⟨3, by omega, rfl, by have h := HR8.out.set hl2.out hlC.out hlAO.out hlw.out 2 (.int .i64 (wrap64 (wrap64 (-p.y) - less))); have e := HD.out; simp only [turV, List.set_cons_zero, List.set_cons_succ] at h ⊢; rw [e]; exact h⟩
          case measure => simp [intOf]
      · obtain ⟨W7, hW7⟩ : ∃ W, W = wr.setCell ⟨nO, 2, none⟩ (.int .i64 p.z) := ⟨_, rfl⟩
        have HR7 := Lib.hid (show TurR (w.heap.size + 1) nC nA nO p _ _ _ _ w W7 by rw [hW7]; exact HR.out.set hl2.out hlC.out hlAO.out hlw.out 2 (.int .i64 p.z))
        cases n2
        · go_upto_region 11 with fail
          rw [← hW7]
          clear hW7 C A O fO lC lA lO HR
          go_wp2_with (first
           | (go_at_call 119; refine (HN.out _).mono ?_; rintro e W8 ⟨rfl, hx⟩; have HR8 := Lib.hid (HR7.out.next hx); clear hx))
          go_roundw
          case rel => exact ⟨3, by omega, rfl, by have h := HR8.out; have e := HD.out; simp only [turV, List.set_cons_zero, List.set_cons_succ] at h ⊢; rw [e]; exact h⟩
          case measure => simp [intOf]
        · go_upto_region 11 with fail
          rw [← hW7]
          clear hW7 C A O fO lC lA lO HR
          go_upto_region 13 with (first
           | (go_at_call 119; refine (HN.out _).mono ?_; rintro e W8 ⟨rfl, hx⟩; have HR8 := Lib.hid (HR7.out.next hx); clear hx))
          have O := HR8.out.O.cell; have fO := HR8.out.O.frozen; have lO := HR8.out.O.lt
          simp only [turV, List.set_cons_zero, List.set_cons_succ] at O
          go_wp2_with fail
          go_roundw
          case rel => exact ⟨3, by omega, rfl, by have h := HR8.out.set hl2.out hlC.out hlAO.out hlw.out 2 (.int .i64 (wrap64 (wrap64 (-p.z) - less))); have e := HD.out; simp only [turV, List.set_cons_zero, List.set_cons_succ] at h ⊢; rw [e]; exact h⟩
          case measure => simp [intOf]
    · have HO3 := Lib.hid (show Arr wr nO 102 [.int .i64 r0, .int .i64 r1, .int .i64 r2] from HR.out.O)
      have HF := Lib.hid (fun W : World => (show Calls Tryz.prog 98 #[.agg #[.int .i64 r0, .int .i64 r1, .int .i64 r2]] W fun e w' => e = .returned (.agg #[.int .i64 r0, .int .i64 r1, .int .i64 r2]) ∧ Ext W w' from refof_any ⟨r0, r1, r2⟩ W))
      clear HN0 HN1 HN2 D0 D1 D2 B0 B1 B2
      have d0 := HO3.out.cell 0; have d1 := HO3.out.cell 1; have d2 := HO3.out.cell 2
      simp only [List.getElem?_cons_zero, List.getElem?_cons_succ] at d0 d1 d2
      clear HO3
      go_wp2_with (go_at_call 98; refine (HF.out _).mono ?_; rintro e W8 ⟨rfl, hx⟩; have HR8 := Lib.hid (HR.out.next hx); have a0 := HR8.out.R.cell 0; have a1 := HR8.out.R.cell 1; have a2 := HR8.out.R.cell 2; have f0 := HR8.out.R.frozen 0; have f1 := HR8.out.R.frozen 1; have f2 := HR8.out.R.frozen 2; simp only [List.getElem?_cons_zero, List.getElem?_cons_succ] at a0 a1 a2; clear hx d0 d1 d2)
      exact bodyPost_ret (v := .agg #[.int .i64 r0, .int .i64 r1, .int .i64 r2]) (by simp [results, Tryz.results83, go_sem, *]) rfl ⟨rfl, ((HR8.out.ext.setCell (by simp) _).setCell (by simp) _).setCell (by simp) _⟩
 · have HD := Lib.hid (show rturnP s less p = p by unfold rturnP isT; rw [decide_eq_false h]; rfl)
   rw [HD.out]
   rw [decide_eq_false h] at HI
   go_enter Tryz.func83, Tryz.ntmps83
   go_upto_region 1 with fail
   rw [← hW]
   clear hW
   go_wp2_with (first
    | (go_at_call 81; refine (HI.out _).mono ?_; rintro e W1 ⟨rfl, hx⟩; have HP1 := Lib.hid (HP0.out.ext hx); have HR1 := Lib.hid (HR0.out.ext hx); have HX1 := Lib.hid (HX0.out.trans hx); clear hx)
    | (refine ldB 25 4 HP1.out Tryz.underlying25 ?_) | (refine ldB 25 4 (HP1.out.alloc _) Tryz.underlying25 ?_) | (refine ldB 25 4 ((HP1.out.alloc _).alloc _) Tryz.underlying25 ?_)
    | (refine wpList_store_blk 25 (.tmp 6) (.tmp 17) rfl rfl HR1.out [.int .i64 p.x, .int .i64 p.y, .int .i64 p.z] rfl rfl (by kernel_rfl) rfl rfl ?_))
   refine bodyPost_ret (v := .agg #[.int .i64 p.x, .int .i64 p.y, .int .i64 p.z]) ?_ rfl ⟨rfl, HX1.out.setRow (by omega) _⟩
   exact results_cell_row Tryz.results83 _ _ _ _ _ _ _ rfl (HR1.out.setRow [.int .i64 p.x, .int .i64 p.y, .int .i64 p.z]) Tryz.underlying25 rfl (by kernel_rfl)
end Go.Proofs.YtlinhgannajfpaaGreatDoor

/- Symmetries, on the program's side: Turn, TurnBox, Size. -/
namespace Go.Proofs.YtlinhgannajfpaaGreatDoor
open Go Go.RowKit

def tcI (s : Int) (p : Pt) (k : Int) : Int := if ngI s k then wrap64 (-(cdP p (axI s k))) else cdP p (axI s k)
def turnP (s : Int) (p : Pt) : Pt := if isT s then ⟨tcI s p 0, tcI s p 1, tcI s p 2⟩ else p
set_option maxRecDepth 100000 in
set_option maxHeartbeats 4000000 in
theorem turn1_any (s k : Int) (p : Pt) (hs : 0 ≤ s ∧ s < 48) (hk : 0 ≤ k ∧ k < 3) (b1 b2 : Nat) (w : World) (hA : AxesIn w) (e1 : w.cell? ⟨b1, 0, none⟩ = some (.int .i64 s)) (e2 : Arr w b2 102 [.int .i64 p.x, .int .i64 p.y, .int .i64 p.z]) :
    Calls Tryz.prog 125 #[.int .i64 k, .pointer (some ⟨b1, 0, none⟩), .pointer (some ⟨b2, 0, none⟩)] w fun e w' => e = .returned (.int .i64 (tcI s p k)) ∧ Ext w w' := by
 have HA := Lib.hid (axis_any s k hs hk w hA)
 have HE := Lib.hid e2
 have ha := axI_in s k hs hk
 obtain ⟨n, hn⟩ : ∃ n, ngI s k = n := ⟨_, rfl⟩
 unfold tcI
 rw [hn] at HA ⊢
 obtain ⟨a, haa⟩ : ∃ a, axI s k = a := ⟨_, rfl⟩
 rw [haa] at HA ha ⊢
 clear hA e2 haa hn
 obtain rfl | rfl | rfl : a = 0 ∨ a = 1 ∨ a = 2 := by omega
 all_goals
  cases n
  all_goals
   go_enter Tryz.func125, Tryz.ntmps125
   go_upto_region 2 with (go_at_call 126; refine HA.out.mono ?_; rintro e W1 ⟨rfl, hx⟩; have HE1 := Lib.hid (HE.out.ext hx); have HX := Lib.hid hx; clear hx)
   have c := HE1.out.cell; have l := HE1.out.lt
   go_wp2_with fail
   go_ret
   exact ⟨ret_int (by simp [cdP]), HX.out⟩
set_option maxRecDepth 100000 in
set_option maxHeartbeats 4000000 in
theorem Turn_any (s : Int) (p : Pt) (w : World) (hA : AxesIn w) : Calls Tryz.prog 92 #[.int .i64 s, .agg #[.int .i64 p.x, .int .i64 p.y, .int .i64 p.z]] w fun e w' => e = .returned (.agg #[.int .i64 (turnP s p).x, .int .i64 (turnP s p).y, .int .i64 (turnP s p).z]) ∧ Ext w w' := by
 obtain ⟨W0, hW⟩ : ∃ W, W = ((w.alloc (.cells #[.int .i64 s] 3)).alloc (.cells #[.int .i64 p.x, .int .i64 p.y, .int .i64 p.z] 25)).alloc (.cells #[.int .i64 0, .int .i64 0, .int .i64 0] 25) := ⟨_, rfl⟩
 have HX0 := Lib.hid (show Ext w W0 by rw [hW]; exact (((Ext.refl w).alloc _).alloc _).alloc _)
 have HS0 := Lib.hid (show Arr W0 w.heap.size 3 [.int .i64 s] by rw [hW]; exact ((Arr.new w _ [.int .i64 s]).alloc _).alloc _)
 have HP0 := Lib.hid (show Arr W0 (w.heap.size + 1) 25 [.int .i64 p.x, .int .i64 p.y, .int .i64 p.z] by rw [hW]; exact (Arr.new1 w _ _ [.int .i64 p.x, .int .i64 p.y, .int .i64 p.z]).alloc _)
 have HR0 := Lib.hid (show Arr W0 (w.heap.size + 1 + 1) 25 [.int .i64 0, .int .i64 0, .int .i64 0] by
  rw [hW]
  have h := Arr.new ((w.alloc (.cells #[.int .i64 s] 3)).alloc (.cells #[.int .i64 p.x, .int .i64 p.y, .int .i64 p.z] 25)) 25 [.int .i64 0, .int .i64 0, .int .i64 0]
  simp only [World.size_alloc_] at h
  exact h)
 have HI := Lib.hid (isTurn_any s W0)
 have HA := Lib.hid (hA.ext HX0.out)
 by_cases h : 0 ≤ s ∧ s < 48
 · have HE := Lib.hid (fun (W : World) (hx : Ext W0 W) (b2 : Nat) (e2 : Arr W b2 102 [.int .i64 p.x, .int .i64 p.y, .int .i64 p.z]) => each_any 125 #[.pointer (some ⟨w.heap.size, 0, none⟩), .pointer (some ⟨b2, 0, none⟩)] (tcI s p 0) (tcI s p 1) (tcI s p 2) W (fun _ _ => by kernel_rfl)
     (fun w' hx' => turn1_any s 0 p h (by omega) w.heap.size b2 w' (HA.out.ext (hx.trans hx')) ((HS0.out.ext (hx.trans hx')).cell 0) (e2.ext hx'))
     (fun w' hx' => turn1_any s 1 p h (by omega) w.heap.size b2 w' (HA.out.ext (hx.trans hx')) ((HS0.out.ext (hx.trans hx')).cell 0) (e2.ext hx'))
     (fun w' hx' => turn1_any s 2 p h (by omega) w.heap.size b2 w' (HA.out.ext (hx.trans hx')) ((HS0.out.ext (hx.trans hx')).cell 0) (e2.ext hx')))
   have HD := Lib.hid (show turnP s p = ⟨tcI s p 0, tcI s p 1, tcI s p 2⟩ by unfold turnP isT; rw [decide_eq_true h]; rfl)
   rw [HD.out]
   unfold isT at HI
   rw [decide_eq_true h] at HI
   obtain ⟨r0, h0⟩ : ∃ r, tcI s p 0 = r := ⟨_, rfl⟩
   obtain ⟨r1, h1⟩ : ∃ r, tcI s p 1 = r := ⟨_, rfl⟩
   obtain ⟨r2, h2⟩ : ∃ r, tcI s p 2 = r := ⟨_, rfl⟩
   rw [h0, h1, h2] at HE ⊢
   clear h h0 h1 h2 hA
   have cS := HS0.out.cell; have lS := HS0.out.lt
   have cP := HP0.out.cell; have lP := HP0.out.lt
   go_enter Tryz.func92, Tryz.ntmps92
   go_upto_region 1 with fail
   rw [← hW]
   clear hW
   go_wp2_with (first
    | (go_at_call 91; refine HI.out.mono ?_; rintro e W1 ⟨rfl, hx⟩; have HP1 := Lib.hid (HP0.out.ext hx); have HR1 := Lib.hid (HR0.out.ext hx); have HX1 := Lib.hid hx; clear hx cS cP lS lP)
    | (refine ldB 25 3 HP1.out Tryz.underlying25 ?_) | (refine ldB 25 3 (HP1.out.alloc _) Tryz.underlying25 ?_) | (refine ldB 25 3 ((HP1.out.alloc _).alloc _) Tryz.underlying25 ?_)
    | (go_at_call 123; refine (list_any p.x p.y p.z _).mono ?_; rintro e W2 ⟨rfl, hx⟩; have HR2 := Lib.hid (HR1.out.ext hx); have HX2 := Lib.hid (HX1.out.trans hx); clear hx)
    | (refine wpList_store_blk2 102 (.tmp 5) (.tmp 11) rfl rfl (Arr.new W2 102 [.int .i64 0, .int .i64 0, .int .i64 0]) [.int .i64 p.x, .int .i64 p.y, .int .i64 p.z] rfl rfl (by kernel_rfl) rfl rfl rfl ?_; intro W3 hW3; have HC3 := Lib.hid (show Arr W3 W2.heap.size 102 [.int .i64 p.x, .int .i64 p.y, .int .i64 p.z] by rw [hW3]; exact (Arr.new W2 _ _).setRow _); have HX3 := Lib.hid (show Ext W0 W3 by rw [hW3]; exact (HX2.out.alloc _).setRow (g := W2.heap.size) HX2.out.size _); have HR3 := Lib.hid (show Arr W3 (w.heap.size + 1 + 1) 25 [.int .i64 0, .int .i64 0, .int .i64 0] by rw [hW3]; exact (HR2.out.alloc _).setRow_other (by have := HR2.out.lt; omega) _); clear hW3)
    | (go_at_call 124; refine (HE.out W3 HX3.out _ HC3.out).mono ?_; rintro e W4 ⟨rfl, hx⟩; have HR4 := Lib.hid (HR3.out.ext hx); have HX4 := Lib.hid (HX3.out.trans hx); clear hx)
    | (refine wpList_store_blk 25 (.tmp 4) (.tmp 13) rfl rfl HR4.out [.int .i64 r0, .int .i64 r1, .int .i64 r2] rfl rfl (by kernel_rfl) rfl rfl ?_))
   refine bodyPost_ret (v := .agg #[.int .i64 r0, .int .i64 r1, .int .i64 r2]) ?_ rfl ⟨rfl, (HX0.out.trans HX4.out).setRow (by omega) _⟩
   exact results_cell_row Tryz.results92 _ _ _ _ _ _ _ rfl (HR4.out.setRow [.int .i64 r0, .int .i64 r1, .int .i64 r2]) Tryz.underlying25 rfl (by kernel_rfl)
 · have HD := Lib.hid (show turnP s p = p by unfold turnP isT; rw [decide_eq_false h]; rfl)
   rw [HD.out]
   unfold isT at HI
   rw [decide_eq_false h] at HI
   have cS := HS0.out.cell; have lS := HS0.out.lt
   go_enter Tryz.func92, Tryz.ntmps92
   go_upto_region 1 with fail
   rw [← hW]
   clear hW
   go_wp2_with (first
    | (go_at_call 91; refine HI.out.mono ?_; rintro e W1 ⟨rfl, hx⟩; have HP1 := Lib.hid (HP0.out.ext hx); have HR1 := Lib.hid (HR0.out.ext hx); have HX1 := Lib.hid hx; clear hx cS lS)
    | (refine ldB 25 3 HP1.out Tryz.underlying25 ?_) | (refine ldB 25 3 (HP1.out.alloc _) Tryz.underlying25 ?_) | (refine ldB 25 3 ((HP1.out.alloc _).alloc _) Tryz.underlying25 ?_)
    | (refine wpList_store_blk 25 (.tmp 4) (.tmp 9) rfl rfl HR1.out [.int .i64 p.x, .int .i64 p.y, .int .i64 p.z] rfl rfl (by kernel_rfl) rfl rfl ?_))
   refine bodyPost_ret (v := .agg #[.int .i64 p.x, .int .i64 p.y, .int .i64 p.z]) ?_ rfl ⟨rfl, (HX0.out.trans HX1.out).setRow (by omega) _⟩
   exact results_cell_row Tryz.results92 _ _ _ _ _ _ _ rfl (HR1.out.setRow [.int .i64 p.x, .int .i64 p.y, .int .i64 p.z]) Tryz.underlying25 rfl (by kernel_rfl)
end Go.Proofs.YtlinhgannajfpaaGreatDoor

/- A region in which two variables of one type are made and stored and whose other operations may call: known by Ext alone. -/
namespace Go.Proofs.YtlinhgannajfpaaGreatDoor
open Go Go.RowKit

structure Box3 (T : TypeId) (n : Nat) (zs c0 c1 : List Value) (W : World) (listed : Array Bool) (g : Nat × Nat) (w : World) : Prop where
 ext : Ext W w
 l0 : listed.getD n true = true → W.heap.size ≤ g.1 ∧ Arr w g.1 T (if listed.getD (n + 2) true = true then c0 else zs)
 l1 : listed.getD (n + 1) true = true → W.heap.size ≤ g.2 ∧ Arr w g.2 T (if listed.getD (n + 3) true = true then c1 else zs)
 ne : listed.getD n true = true → listed.getD (n + 1) true = true → g.1 ≠ g.2
 s0 : listed.getD (n + 2) true = true → listed.getD n true = true
 s1 : listed.getD (n + 3) true = true → listed.getD (n + 1) true = true
theorem Box3.keep {T n : Nat} {zs c0 c1 : List Value} {W w w' : World} {listed : Array Bool} {g : Nat × Nat} (h : Box3 T n zs c0 c1 W listed g w) {i : Nat} (hi : i < n) (hx : Ext w w') : Box3 T n zs c0 c1 W (listed.setIfInBounds i true) g w' := by
 have h1 : ∀ k, n ≤ k → (listed.setIfInBounds i true).getD k true = listed.getD k true := fun k hk => getD_set_ne true (by omega)
 refine ⟨h.ext.trans hx, ?_, ?_, ?_, ?_, ?_⟩
 · rw [h1 n (Nat.le_refl _), h1 (n + 2) (by omega)]; intro h3; exact ⟨(h.l0 h3).1, (h.l0 h3).2.ext hx⟩
 · rw [h1 (n + 1) (by omega), h1 (n + 3) (by omega)]; intro h3; exact ⟨(h.l1 h3).1, (h.l1 h3).2.ext hx⟩
 · rw [h1 n (Nat.le_refl _), h1 (n + 1) (by omega)]; exact h.ne
 · rw [h1 n (Nat.le_refl _), h1 (n + 2) (by omega)]; exact h.s0
 · rw [h1 (n + 1) (by omega), h1 (n + 3) (by omega)]; exact h.s1
section
variable {P : Program}
theorem wp_region_two3 {id : Nat} {Q : Exit → Act → World → Prop} {a : Act} {w : World} {l : List Oper} (V : Nat → Value) (n T d0 d1 sv0 sv1 iv0 iv1 : Nat) (zs c0 c1 : List Value) (hm : P.follows .mixedOrders = true) (hs : slotsB l.toArray = true) (hb : backB2 l.toArray = true)
    (hg : ∀ (i : Nat) (o : Oper), l[i]? = some o → o.guard = none) (hln : l.length = n + 4)
    (ha0 : ∃ o, l[n]? = some o ∧ o.op = .alloc T ∧ o.dst = some d0) (ha1 : ∃ o, l[n + 1]? = some o ∧ o.op = .alloc T ∧ o.dst = some d1)
    (hs0 : ∃ o, l[n + 2]? = some o ∧ o.op = .store T (.tmp d0) (.tmp sv0) ∧ o.dst = none ∧ waits o n = true ∧ waits o iv0 = true)
    (hs1 : ∃ o, l[n + 3]? = some o ∧ o.op = .store T (.tmp d1) (.tmp sv1) ∧ o.dst = none ∧ waits o (n + 1) = true ∧ waits o iv1 = true)
    (hi0 : iv0 < n) (hi1 : iv1 < n) (hv0 : dstOf l.toArray iv0 = some sv0) (hv1 : dstOf l.toArray iv1 = some sv1) (hb0 : sv0 < a.tmps.size) (hb1 : sv1 < a.tmps.size) (hd0 : d0 < a.tmps.size) (hd1 : d1 < a.tmps.size) (hV0 : V iv0 = .agg c0.toArray) (hV1 : V iv1 = .agg c1.toArray)
    (hz : ∃ i z, P.info? T = some i ∧ i.zero = some z ∧ z.cells.toList = zs) (hi : (P.info? T).map (·.size) = some zs.length) (hz0 : c0.length = zs.length) (hz1 : c1.length = zs.length) (ho0 : c0.all (·.oneCell') = true) (ho1 : c1.all (·.oneCell') = true)
    (hhead : ∀ (listed : Array Bool) (w1 : World) (i : Nat) (o : Oper), l[i]? = some o → i < n → (∀ e, e ∈ o.after → Region.binds .any e = true → listed.getD e.on false = true) → Ext w w1 →
      ∀ (b : Act) (K : Act → World → Prop), (∀ d : Nat, missB l.toArray d = true → b.tmps[d]? = a.tmps[d]?) → (∀ j d, j < n → listed.getD j true = true → dstOf l.toArray j = some d → d < a.tmps.size → b.tmps[d]? = some (V j)) →
      (∀ w', Ext w1 w' → K (b.put o.dst (V i)) w') → o.wp P b w1 K Q)
    (hend : ∀ (g : Nat × Nat) w1, Ext w w1 → w.heap.size ≤ g.1 → w.heap.size ≤ g.2 → Arr w1 g.1 T c0 → Arr w1 g.2 T c1 → g.1 ≠ g.2 → Q .normal (fillAllN l.toArray (box2V V n g) a l.length) w1) : (Code.region id l.toArray true).wp P Q a w := by
 refine wp_region_slots2 (box2V V n) (Box3 T n zs c0 c1) (0, 0) hm hs hb hg ?_ ?_ ?_
 · have h0 : ∀ k, k < l.length → (Array.replicate l.length false).getD k true = false := fun k hk => by simp [Array.getD, hk]
   exact ⟨(Ext.refl _).drew, fun h => (by rw [h0 n (by omega)] at h; cases h), fun h => (by rw [h0 (n + 1) (by omega)] at h; cases h), fun h => (by rw [h0 n (by omega)] at h; cases h), fun h => (by rw [h0 (n + 2) (by omega)] at h; cases h), fun h => (by rw [h0 (n + 3) (by omega)] at h; cases h)⟩
 · intro listed g w1 i o ho hun hdep hR b K E0 E1 hK
   have hil : i < l.length := (List.getElem?_eq_some_iff.1 ho).1
   obtain ⟨ie, z, hie, hzz, hzl2⟩ := hz
   have hzc : z.cells = zs.toArray := by rw [← hzl2]
   have hlist : ∀ k, k ≠ i → (listed.setIfInBounds i true).getD k true = listed.getD k true := fun k hk => getD_set_ne true (Ne.symm hk)
   have hset : (listed.setIfInBounds i true).getD i true = true := by
    by_cases h : i < listed.size <;> simp [Array.getD, h]
   have hwait : ∀ j, waits o j = true → listed.getD j true = true := fun j hj => by
    obtain ⟨e, he, rfl, hbd⟩ := waits_spec hj
    exact getD_up (hdep e he hbd)
   by_cases hin : i < n
   · refine hhead listed w1 i o ho hin hdep hR.ext b K E0 (fun j d hj hl hd hds => ?_) (fun w' hx => ?_)
     · have h := E1 j d (by omega) hl hd hds
       rw [h]; unfold box2V; rw [if_pos hj]
     · have h := hK g w' (hR.keep hin hx) (fun _ _ _ => rfl)
       unfold box2V at h
       rw [if_pos hin] at h
       exact h
   · rcases (show i = n ∨ i = n + 1 ∨ i = n + 2 ∨ i = n + 3 by omega) with rfl | rfl | rfl | rfl
     · obtain ⟨o2, ho2, hop, hdst⟩ := ha0
       rw [ho] at ho2; injection ho2 with ho2; subst ho2
       have hnext : listed.getD (i + 2) true = false := by
        cases hq : listed.getD (i + 2) true
        · rfl
        · have := hR.s0 hq; rw [this] at hun; cases hun
       have hK2 := hK (w1.heap.size, g.2) (w1.alloc (.cells zs.toArray T)) ⟨hR.ext.alloc _, fun _ => ⟨hR.ext.size, by rw [hlist _ (by omega), hnext]; exact Arr.new w1 T zs⟩, fun h => (by
           rw [hlist _ (by omega)] at h
           rw [hlist _ (by omega)]
           exact ⟨(hR.l1 h).1, (hR.l1 h).2.alloc _⟩), fun _ h => (by
           rw [hlist _ (by omega)] at h
           have := (hR.l1 h).2.lt
           simp only
           omega), fun _ => hset, fun h => (by rw [hlist _ (by omega)] at h; rw [hlist _ (by omega)]; exact hR.s1 h)⟩ (fun j hj hl => by
           have hne : j ≠ i := fun e => by subst e; rw [hl] at hun; cases hun
           unfold box2V
           simp only [if_neg hne])
       have hbv : box2V V i (w1.heap.size, g.2) i = .pointer (some ⟨w1.heap.size, 0, none⟩) := by unfold box2V; simp
       rw [hbv] at hK2
       have hrun : (execOp b.eval o).run P w1 = .ok (.value (.pointer (some ⟨w1.heap.size, 0, none⟩))) (w1.alloc (.cells zs.toArray T)) := by
        unfold execOp
        simp only [hop]
        simp [Instr.alloc, zeroValue, typeInfo, hie, hzz, newVar, newRow, hzc]
       unfold Oper.wp
       rw [hrun]
       exact hK2
     · obtain ⟨o2, ho2, hop, hdst⟩ := ha1
       rw [ho] at ho2; injection ho2 with ho2; subst ho2
       have hnext : listed.getD (n + 3) true = false := by
        cases hq : listed.getD (n + 3) true
        · rfl
        · have := hR.s1 hq; rw [this] at hun; cases hun
       have hK2 := hK (g.1, w1.heap.size) (w1.alloc (.cells zs.toArray T)) ⟨hR.ext.alloc _, fun h => (by
           rw [hlist _ (by omega)] at h
           rw [hlist _ (by omega)]
           exact ⟨(hR.l0 h).1, (hR.l0 h).2.alloc _⟩), fun _ => ⟨hR.ext.size, by rw [hlist _ (by omega), hnext]; exact Arr.new w1 T zs⟩, fun h _ => (by
           rw [hlist _ (by omega)] at h
           have := (hR.l0 h).2.lt
           simp only
           omega), fun h => (by rw [hlist _ (by omega)] at h; rw [hlist _ (by omega)]; exact hR.s0 h), fun _ => hset⟩ (fun j hj hl => by
           have hne : j ≠ n + 1 := fun e => by subst e; rw [hl] at hun; cases hun
           unfold box2V
           simp only [if_neg hne])
       have hbv : box2V V n (g.1, w1.heap.size) (n + 1) = .pointer (some ⟨w1.heap.size, 0, none⟩) := by unfold box2V; rw [if_neg (by omega), if_neg (by omega), if_pos rfl]
       rw [hbv] at hK2
       have hrun : (execOp b.eval o).run P w1 = .ok (.value (.pointer (some ⟨w1.heap.size, 0, none⟩))) (w1.alloc (.cells zs.toArray T)) := by
        unfold execOp
        simp only [hop]
        simp [Instr.alloc, zeroValue, typeInfo, hie, hzz, newVar, newRow, hzc]
       unfold Oper.wp
       rw [hrun]
       exact hK2
     · obtain ⟨o2, ho2, hop, hdst, hw1, hw2⟩ := hs0
       rw [ho] at ho2; injection ho2 with ho2; subst ho2
       have hl1 := hwait _ hw1
       have hl2 := hwait _ hw2
       obtain ⟨q1, q2⟩ := hR.l0 hl1
       rw [hun] at q2
       simp only [Bool.false_eq_true, if_false] at q2
       obtain ⟨oa, hoa, hopa, hdsta⟩ := ha0
       have hda : dstOf l.toArray n = some d0 := by simp [dstOf, hoa, hdsta]
       have t1 := E1 n d0 (by omega) hl1 hda hd0
       have t2 := E1 iv0 sv0 (by omega) hl2 hv0 hb0
       have bv1 : box2V V n g n = .pointer (some ⟨g.1, 0, none⟩) := by unfold box2V; simp
       have bv2 : box2V V n g iv0 = .agg c0.toArray := by unfold box2V; rw [if_pos hi0, hV0]
       rw [bv1] at t1
       rw [bv2] at t2
       have hK2 := hK g (w1.setRow g.1 c0.toArray) ⟨hR.ext.setRow q1 _, fun _ => ⟨q1, by rw [hset]; exact q2.setRow c0⟩, fun h => (by
           rw [hlist _ (by omega)] at h
           rw [hlist _ (by omega)]
           exact ⟨(hR.l1 h).1, (hR.l1 h).2.setRow_other (Ne.symm (hR.ne hl1 h)) _⟩), fun h k => (by rw [hlist _ (by omega)] at h k; exact hR.ne h k), fun _ => by rw [hlist n (by omega)]; exact hl1, fun h => (by rw [hlist _ (by omega)] at h; rw [hlist _ (by omega)]; exact hR.s1 h)⟩ (fun _ _ _ => rfl)
       have bv3 : box2V V n g (n + 2) = undef := by unfold box2V; rw [if_neg (by omega), if_neg (by omega), if_neg (by omega)]
       rw [bv3] at hK2
       exact wp_store_row T (.tmp d0) (.tmp sv0) hop g.1 c0.toArray (by simp [Act.eval, Array.getD_eq_getD_getElem?, t1]) (by simp [Act.eval, Array.getD_eq_getD_getElem?, t2]) T zs.toArray q2 (by rw [hi]; simp [hz0]) (by simp [hz0]) (by simpa using ho0) hK2
     · obtain ⟨o2, ho2, hop, hdst, hw1, hw2⟩ := hs1
       rw [ho] at ho2; injection ho2 with ho2; subst ho2
       have hl1 := hwait _ hw1
       have hl2 := hwait _ hw2
       obtain ⟨q1, q2⟩ := hR.l1 hl1
       rw [hun] at q2
       simp only [Bool.false_eq_true, if_false] at q2
       obtain ⟨oa, hoa, hopa, hdsta⟩ := ha1
       have hda : dstOf l.toArray (n + 1) = some d1 := by simp [dstOf, hoa, hdsta]
       have t1 := E1 (n + 1) d1 (by omega) hl1 hda hd1
       have t2 := E1 iv1 sv1 (by omega) hl2 hv1 hb1
       have bv1 : box2V V n g (n + 1) = .pointer (some ⟨g.2, 0, none⟩) := by unfold box2V; rw [if_neg (by omega), if_neg (by omega), if_pos rfl]
       have bv2 : box2V V n g iv1 = .agg c1.toArray := by unfold box2V; rw [if_pos hi1, hV1]
       rw [bv1] at t1
       rw [bv2] at t2
       have hK2 := hK g (w1.setRow g.2 c1.toArray) ⟨hR.ext.setRow q1 _, fun h => (by
           rw [hlist _ (by omega)] at h
           rw [hlist _ (by omega)]
           exact ⟨(hR.l0 h).1, (hR.l0 h).2.setRow_other (hR.ne h hl1) _⟩), fun _ => ⟨q1, by rw [hset]; exact q2.setRow c1⟩, fun h k => (by rw [hlist _ (by omega)] at h k; exact hR.ne h k), fun h => (by rw [hlist _ (by omega)] at h; rw [hlist _ (by omega)]; exact hR.s0 h), fun _ => by rw [hlist (n + 1) (by omega)]; exact hl1⟩ (fun _ _ _ => rfl)
       have bv3 : box2V V n g (n + 3) = undef := by unfold box2V; rw [if_neg (by omega), if_neg (by omega), if_neg (by omega)]
       rw [bv3] at hK2
       exact wp_store_row T (.tmp d1) (.tmp sv1) hop g.2 c1.toArray (by simp [Act.eval, Array.getD_eq_getD_getElem?, t1]) (by simp [Act.eval, Array.getD_eq_getD_getElem?, t2]) T zs.toArray q2 (by rw [hi]; simp [hz1]) (by simp [hz1]) (by simpa using ho1) hK2
 · intro listed g w1 hall hR
   rw [fill_done hall]
   obtain ⟨q1, q2⟩ := hR.l0 (hall n (by omega))
   obtain ⟨q3, q4⟩ := hR.l1 (hall (n + 1) (by omega))
   rw [if_pos (hall (n + 2) (by omega))] at q2
   rw [if_pos (hall (n + 3) (by omega))] at q4
   exact hend g w1 hR.ext q1 q3 q2 q4 (hR.ne (hall n (by omega)) (hall (n + 1) (by omega)))
end
end Go.Proofs.YtlinhgannajfpaaGreatDoor

/- Symmetries, on the program's side: TurnBox, Size. -/
namespace Go.Proofs.YtlinhgannajfpaaGreatDoor
open Go Go.RowKit

def turnB (s : Int) (b : Bx) : Bx := if isT s then if emptyB b then zeroBx else ⟨⟨min (turnP s b.lo).x (turnP s b.hi).x, min (turnP s b.lo).y (turnP s b.hi).y, min (turnP s b.lo).z (turnP s b.hi).z⟩, ⟨max (turnP s b.lo).x (turnP s b.hi).x, max (turnP s b.lo).y (turnP s b.hi).y, max (turnP s b.lo).z (turnP s b.hi).z⟩⟩ else b
theorem infoPtD : ∃ i z, Tryz.prog.info? 25 = some i ∧ i.zero = some z ∧ z.cells.toList = [.int .i64 0, .int .i64 0, .int .i64 0] := by
 have h : ((Tryz.prog.info? 25).map fun i => i.zero.map fun z => z.cells.toList) = some (some [.int .i64 0, .int .i64 0, .int .i64 0]) := by kernel_rfl
 cases hq : Tryz.prog.info? 25 with
 | none => rw [hq] at h; cases h
 | some i =>
   rw [hq] at h
   simp only [Option.map_some, Option.some.injEq] at h
   obtain ⟨z, h1, h2⟩ := Option.map_eq_some_iff.1 h
   exact ⟨i, z, rfl, h1, h2⟩
set_option maxRecDepth 100000 in
set_option maxHeartbeats 8000000 in
theorem TurnBox_any (s : Int) (b : Bx) (w : World) (hA : AxesIn w) : Calls Tryz.prog 58 #[.int .i64 s, .agg #[.int .i64 b.lo.x, .int .i64 b.lo.y, .int .i64 b.lo.z, .int .i64 b.hi.x, .int .i64 b.hi.y, .int .i64 b.hi.z]] w fun e w' => e = .returned (.agg #[.int .i64 (turnB s b).lo.x, .int .i64 (turnB s b).lo.y, .int .i64 (turnB s b).lo.z, .int .i64 (turnB s b).hi.x, .int .i64 (turnB s b).hi.y, .int .i64 (turnB s b).hi.z]) ∧ Ext w w' := by
 have hm := mixed
 obtain ⟨W0, hW⟩ : ∃ W, W = (w.alloc (.cells #[.int .i64 b.lo.x, .int .i64 b.lo.y, .int .i64 b.lo.z, .int .i64 b.hi.x, .int .i64 b.hi.y, .int .i64 b.hi.z] 27)).alloc (.cells #[.int .i64 0, .int .i64 0, .int .i64 0, .int .i64 0, .int .i64 0, .int .i64 0] 27) := ⟨_, rfl⟩
 have HX0 := Lib.hid (show Ext w W0 by rw [hW]; exact ((Ext.refl w).alloc _).alloc _)
 have HB0 := Lib.hid (show Arr W0 w.heap.size 27 [.int .i64 b.lo.x, .int .i64 b.lo.y, .int .i64 b.lo.z, .int .i64 b.hi.x, .int .i64 b.hi.y, .int .i64 b.hi.z] by rw [hW]; exact (Arr.new w _ [.int .i64 b.lo.x, .int .i64 b.lo.y, .int .i64 b.lo.z, .int .i64 b.hi.x, .int .i64 b.hi.y, .int .i64 b.hi.z]).alloc _)
 have HR0 := Lib.hid (show Arr W0 (w.heap.size + 1) 27 Z6 by rw [hW]; exact Arr.new1 w _ _ Z6)
 have HI := Lib.hid (isTurn_any s)
 unfold isT at HI
 have HE := Lib.hid (Empty_any b)
 have HA := Lib.hid hA
 have HT := Lib.hid (fun (p : Pt) (W : World) (hx : Ext w W) => Turn_any s p W (HA.out.ext hx))
 clear hA
 by_cases h : 0 ≤ s ∧ s < 48
 · rw [decide_eq_true h] at HI
   by_cases he : emptyB b = true
   · have HD := Lib.hid (show turnB s b = zeroBx by unfold turnB isT; rw [decide_eq_true h, if_pos rfl, if_pos he])
     rw [HD.out]
     rw [he] at HE
     go_enter Tryz.func58, Tryz.ntmps58
     go_upto_region 1 with fail
     rw [← hW]
     clear hW
     go_wp2_with (first
      | (go_at_call 91; refine (HI.out _).mono ?_; rintro e W1 ⟨rfl, hx⟩; have HB1 := Lib.hid (HB0.out.ext hx); have HR1 := Lib.hid (HR0.out.ext hx); have HX1 := Lib.hid (HX0.out.trans hx); clear hx)
      | (refine ldB 27 3 HB1.out Tryz.underlying27 ?_) | (refine ldB 27 3 (HB1.out.alloc _) Tryz.underlying27 ?_) | (refine ldB 27 3 ((HB1.out.alloc _).alloc _) Tryz.underlying27 ?_)
      | (go_at_call 49; refine (HE.out _).mono ?_; rintro e W2 ⟨rfl, hx⟩; have HR2 := Lib.hid (HR1.out.ext hx); have HX2 := Lib.hid (HX1.out.trans hx); clear hx)
      | (refine wpList_store_blk 27 (.tmp 4) (.tmp 15) rfl rfl HR2.out Z6 rfl rfl (by kernel_rfl) rfl rfl ?_))
     refine bodyPost_ret (v := .agg #[.int .i64 zeroBx.lo.x, .int .i64 zeroBx.lo.y, .int .i64 zeroBx.lo.z, .int .i64 zeroBx.hi.x, .int .i64 zeroBx.hi.y, .int .i64 zeroBx.hi.z]) ?_ rfl ⟨rfl, HX2.out.setRow (by omega) _⟩
     exact results_cell_row Tryz.results58 _ _ _ _ _ _ _ rfl (HR2.out.setRow Z6) Tryz.underlying27 rfl (by kernel_rfl)
   · have HD := Lib.hid (show turnB s b = ⟨⟨min (turnP s b.lo).x (turnP s b.hi).x, min (turnP s b.lo).y (turnP s b.hi).y, min (turnP s b.lo).z (turnP s b.hi).z⟩, ⟨max (turnP s b.lo).x (turnP s b.hi).x, max (turnP s b.lo).y (turnP s b.hi).y, max (turnP s b.lo).z (turnP s b.hi).z⟩⟩ by unfold turnB isT; rw [decide_eq_true h, if_pos rfl, if_neg he])
     obtain ⟨p1, h1⟩ : ∃ p, turnP s b.lo = p := ⟨_, rfl⟩
     obtain ⟨p2, h2⟩ : ∃ p, turnP s b.hi = p := ⟨_, rfl⟩
     rw [h1, h2] at HD
     rw [HD.out]
     have HT1 := Lib.hid (HT.out b.lo)
     have HT2 := Lib.hid (HT.out b.hi)
     rw [h1] at HT1
     rw [h2] at HT2
     have HJ := Lib.hid (fun W : World => join_any ⟨p1, p1⟩ ⟨p2, p2⟩ 94 95 min max two_lesser two_greater W)
     clear HT HD h1 h2
     rw [Bool.not_eq_true] at he
     rw [he] at HE
     go_enter Tryz.func58, Tryz.ntmps58
     go_upto_region 1 with fail
     rw [← hW]
     clear hW
     go_upto_region 5 with (first
      | (go_at_call 91; refine (HI.out _).mono ?_; rintro e W1 ⟨rfl, hx⟩; have HB1 := Lib.hid (HB0.out.ext hx); have HR1 := Lib.hid (HR0.out.ext hx); have HX1 := Lib.hid (HX0.out.trans hx); clear hx)
      | (refine ldB 27 3 HB1.out Tryz.underlying27 ?_) | (refine ldB 27 3 (HB1.out.alloc _) Tryz.underlying27 ?_) | (refine ldB 27 3 ((HB1.out.alloc _).alloc _) Tryz.underlying27 ?_)
      | (go_at_call 49; refine (HE.out _).mono ?_; rintro e W2 ⟨rfl, hx⟩; have HB2 := Lib.hid (HB1.out.ext hx); have HR2 := Lib.hid (HR1.out.ext hx); have HX2 := Lib.hid (HX1.out.trans hx); clear hx))
     refine wp_region_two3 (w := W2) (fun i => match i with | 0 => .int .i64 s | 1 => .pointer (some ⟨w.heap.size, 0, none⟩) | 2 => .agg #[.int .i64 b.lo.x, .int .i64 b.lo.y, .int .i64 b.lo.z] | 3 => .agg #[.int .i64 p1.x, .int .i64 p1.y, .int .i64 p1.z] | 4 => .int .i64 s | 5 => .pointer (some ⟨w.heap.size, 3, none⟩) | 6 => .agg #[.int .i64 b.hi.x, .int .i64 b.hi.y, .int .i64 b.hi.z] | 7 => .agg #[.int .i64 p2.x, .int .i64 p2.y, .int .i64 p2.z] | _ => undef) 8 25 5 6 19 23 3 7 [.int .i64 0, .int .i64 0, .int .i64 0] [.int .i64 p1.x, .int .i64 p1.y, .int .i64 p1.z] [.int .i64 p2.x, .int .i64 p2.y, .int .i64 p2.z] hm (by kernel_rfl) (by kernel_rfl) (noGuardD (by kernel_rfl)) rfl ⟨_, rfl, rfl, rfl⟩ ⟨_, rfl, rfl, rfl⟩ ⟨_, rfl, rfl, rfl, rfl, rfl⟩ ⟨_, rfl, rfl, rfl, rfl, rfl⟩ (by decide) (by decide) rfl rfl (by simp) (by simp) (by simp) (by simp) rfl rfl infoPtD (by kernel_rfl) rfl rfl rfl rfl ?_ ?_
     · intro listed w2 i o ho hin hdep hx bb K E0 E1 hK
       match i, ho with
       | 0, ho =>
         obtain rfl := Option.some.inj ho
         have e := E0 0 (by kernel_rfl)
         simp only [List.getElem?_toArray, List.getElem?_cons_zero] at e
         exact op_run (by unfold execOp; simp [e, Act.eval, go_sem]) (hK w2 (Ext.refl _))
       | 1, ho =>
         obtain rfl := Option.some.inj ho
         have e := E0 3 (by kernel_rfl)
         simp only [List.getElem?_toArray, List.getElem?_cons_zero, List.getElem?_cons_succ] at e
         exact op_run (by unfold execOp; simp [e, Act.eval, go_sem]) (hK w2 (Ext.refl _))
       | 2, ho =>
         obtain rfl := Option.some.inj ho
         have e := E1 1 17 (by decide) (getD_up (hdep ⟨1, .data⟩ (by simp) rfl)) rfl (by simp)
         refine op_loadcells rfl w.heap.size 0 [.int .i64 b.lo.x, .int .i64 b.lo.y, .int .i64 b.lo.z] (eval_of e) (fun j v hv => ?_) _ Tryz.underlying25 rfl (by kernel_rfl) (hK w2 (Ext.refl _))
         rw [(HB2.out.ext hx).cell, Nat.zero_add]
         match j, hv with
         | 0, hv => exact hv
         | 1, hv => exact hv
         | 2, hv => exact hv
       | 3, ho =>
         obtain rfl := Option.some.inj ho
         have e0 := E1 0 16 (by decide) (getD_up (hdep ⟨0, .data⟩ (by simp) rfl)) rfl (by simp)
         have e2 := E1 2 18 (by decide) (getD_up (hdep ⟨2, .data⟩ (by simp) rfl)) rfl (by simp)
         have hc : Calls Tryz.prog 92 #[.int .i64 s, .agg #[.int .i64 b.lo.x, .int .i64 b.lo.y, .int .i64 b.lo.z]] w2 fun e w' => ∃ v, e = .returned v ∧ Ext w2 w' ∧ v = .agg #[.int .i64 p1.x, .int .i64 p1.y, .int .i64 p1.z] := (HT1.out w2 (HX2.out.trans hx)).mono fun e w' ⟨h1, h2⟩ => ⟨_, h1, h2, rfl⟩
         exact op_call (G := fun v w' => v = .agg #[.int .i64 p1.x, .int .i64 p1.y, .int .i64 p1.z]) rfl (by simp [eval_of e0, eval_of e2]) (fun _ _ => by kernel_rfl) hc (fun v w' h1 h2 => by subst h2; exact hK w' h1)
       | 4, ho =>
         obtain rfl := Option.some.inj ho
         have e := E0 0 (by kernel_rfl)
         simp only [List.getElem?_toArray, List.getElem?_cons_zero] at e
         exact op_run (by unfold execOp; simp [e, Act.eval, go_sem]) (hK w2 (Ext.refl _))
       | 5, ho =>
         obtain rfl := Option.some.inj ho
         have e := E0 3 (by kernel_rfl)
         simp only [List.getElem?_toArray, List.getElem?_cons_zero, List.getElem?_cons_succ] at e
         exact op_run (by unfold execOp; simp [e, Act.eval, go_sem]) (hK w2 (Ext.refl _))
       | 6, ho =>
         obtain rfl := Option.some.inj ho
         have e := E1 5 21 (by decide) (getD_up (hdep ⟨5, .data⟩ (by simp) rfl)) rfl (by simp)
         refine op_loadcells rfl w.heap.size 3 [.int .i64 b.hi.x, .int .i64 b.hi.y, .int .i64 b.hi.z] (eval_of e) (fun j v hv => ?_) _ Tryz.underlying25 rfl (by kernel_rfl) (hK w2 (Ext.refl _))
         rw [(HB2.out.ext hx).cell]
         match j, hv with
         | 0, hv => exact hv
         | 1, hv => exact hv
         | 2, hv => exact hv
       | 7, ho =>
         obtain rfl := Option.some.inj ho
         have e0 := E1 4 20 (by decide) (getD_up (hdep ⟨4, .data⟩ (by simp) rfl)) rfl (by simp)
         have e2 := E1 6 22 (by decide) (getD_up (hdep ⟨6, .data⟩ (by simp) rfl)) rfl (by simp)
         have hc : Calls Tryz.prog 92 #[.int .i64 s, .agg #[.int .i64 b.hi.x, .int .i64 b.hi.y, .int .i64 b.hi.z]] w2 fun e w' => ∃ v, e = .returned v ∧ Ext w2 w' ∧ v = .agg #[.int .i64 p2.x, .int .i64 p2.y, .int .i64 p2.z] := (HT2.out w2 (HX2.out.trans hx)).mono fun e w' ⟨h1, h2⟩ => ⟨_, h1, h2, rfl⟩
         exact op_call (G := fun v w' => v = .agg #[.int .i64 p2.x, .int .i64 p2.y, .int .i64 p2.z]) rfl (by simp [eval_of e0, eval_of e2]) (fun _ _ => by kernel_rfl) hc (fun v w' h1 h2 => by subst h2; exact hK w' h1)
       | i + 8, ho => omega
     · rintro ⟨g0, g1⟩ W3 hx hl0 hl1 A0 A1 hne
       simp only [List.length_cons, List.length_nil, fillAllN, dstOf, Act.put, List.getElem?_toArray, List.getElem?_cons_zero, List.getElem?_cons_succ, Option.bind_some, List.setIfInBounds_toArray, List.set_cons_zero, List.set_cons_succ, box2V, Nat.lt_irrefl, if_false, if_true, Nat.reduceLT, Nat.reduceEqDiff, Nat.reduceAdd]
       have HR3 := Lib.hid (HR2.out.ext hx)
       have HX3 := Lib.hid (HX2.out.trans hx)
       have HA0 := Lib.hid A0
       have HA1 := Lib.hid A1
       clear A0 A1 hx hne hl0 hl1
       go_wp2_with (first
        | (refine ldB 25 5 HA0.out Tryz.underlying25 ?_) | (refine ldB 25 5 (HA0.out.alloc _) Tryz.underlying25 ?_) | (refine ldB 25 5 ((HA0.out.alloc _).alloc _) Tryz.underlying25 ?_)
        | (refine ldB 25 6 HA1.out Tryz.underlying25 ?_) | (refine ldB 25 6 (HA1.out.alloc _) Tryz.underlying25 ?_) | (refine ldB 25 6 ((HA1.out.alloc _).alloc _) Tryz.underlying25 ?_)
        | (go_at_call 93; refine (HJ.out _).mono ?_; rintro e W4 ⟨rfl, hx⟩; have HR4 := Lib.hid (HR3.out.ext hx); have HX4 := Lib.hid (HX3.out.trans hx); clear hx)
        | (refine wpList_store_blk 27 (.tmp 4) (.tmp 30) rfl rfl HR4.out [.int .i64 (min p1.x p2.x), .int .i64 (min p1.y p2.y), .int .i64 (min p1.z p2.z), .int .i64 (max p1.x p2.x), .int .i64 (max p1.y p2.y), .int .i64 (max p1.z p2.z)] rfl rfl (by kernel_rfl) rfl rfl ?_))
       refine bodyPost_ret (v := .agg #[.int .i64 (min p1.x p2.x), .int .i64 (min p1.y p2.y), .int .i64 (min p1.z p2.z), .int .i64 (max p1.x p2.x), .int .i64 (max p1.y p2.y), .int .i64 (max p1.z p2.z)]) ?_ rfl ⟨rfl, HX4.out.setRow (by omega) _⟩
       exact results_cell_row Tryz.results58 _ _ _ _ _ _ _ rfl (HR4.out.setRow [.int .i64 (min p1.x p2.x), .int .i64 (min p1.y p2.y), .int .i64 (min p1.z p2.z), .int .i64 (max p1.x p2.x), .int .i64 (max p1.y p2.y), .int .i64 (max p1.z p2.z)]) Tryz.underlying27 rfl (by kernel_rfl)
 · have HD := Lib.hid (show turnB s b = b by unfold turnB isT; rw [decide_eq_false h]; rfl)
   rw [HD.out]
   rw [decide_eq_false h] at HI
   go_enter Tryz.func58, Tryz.ntmps58
   go_upto_region 1 with fail
   rw [← hW]
   clear hW
   go_wp2_with (first
    | (go_at_call 91; refine (HI.out _).mono ?_; rintro e W1 ⟨rfl, hx⟩; have HB1 := Lib.hid (HB0.out.ext hx); have HR1 := Lib.hid (HR0.out.ext hx); have HX1 := Lib.hid (HX0.out.trans hx); clear hx)
    | (refine ldB 27 3 HB1.out Tryz.underlying27 ?_) | (refine ldB 27 3 (HB1.out.alloc _) Tryz.underlying27 ?_) | (refine ldB 27 3 ((HB1.out.alloc _).alloc _) Tryz.underlying27 ?_)
    | (refine wpList_store_blk 27 (.tmp 4) (.tmp 11) rfl rfl HR1.out [.int .i64 b.lo.x, .int .i64 b.lo.y, .int .i64 b.lo.z, .int .i64 b.hi.x, .int .i64 b.hi.y, .int .i64 b.hi.z] rfl rfl (by kernel_rfl) rfl rfl ?_))
   refine bodyPost_ret (v := .agg #[.int .i64 b.lo.x, .int .i64 b.lo.y, .int .i64 b.lo.z, .int .i64 b.hi.x, .int .i64 b.hi.y, .int .i64 b.hi.z]) ?_ rfl ⟨rfl, HX1.out.setRow (by omega) _⟩
   exact results_cell_row Tryz.results58 _ _ _ _ _ _ _ rfl (HR1.out.setRow [.int .i64 b.lo.x, .int .i64 b.lo.y, .int .i64 b.lo.z, .int .i64 b.hi.x, .int .i64 b.hi.y, .int .i64 b.hi.z]) Tryz.underlying27 rfl (by kernel_rfl)
set_option maxHeartbeats 4000000 in
theorem Size_any (b : Bx) (w : World) :
    Calls Tryz.prog 57 #[.agg #[.int .i64 b.lo.x, .int .i64 b.lo.y, .int .i64 b.lo.z, .int .i64 b.hi.x, .int .i64 b.hi.y, .int .i64 b.hi.z]] w fun e w' => e = .returned (.agg #[.int .i64 (if emptyB b then zeroPt else addP b.hi (scaleP b.lo (-1))).x, .int .i64 (if emptyB b then zeroPt else addP b.hi (scaleP b.lo (-1))).y, .int .i64 (if emptyB b then zeroPt else addP b.hi (scaleP b.lo (-1))).z]) ∧ Ext w w' := by
 have hc := fun w' : World => Empty_any b w'
 cases hq : emptyB b
 · rw [hq] at hc
   have HC := Lib.hid hc
   clear hc hq
   simp only [Bool.false_eq_true, if_false]
   go_enter Tryz.func57, Tryz.ntmps57
   go_wp2_with (first | (go_at_call 49; refine (HC.out _).mono ?_; rintro e wx ⟨rfl, xx⟩; obtain ⟨xc, xf, xl, xe, xn, xm⟩ := xx.look; have xz := xx.size; (try simp only [World.size_alloc_] at xz); (try (have qh := xx.one (b := w.heap.size) (by (try simp only [World.size_alloc_]); omega); obtain ⟨qc, qf, ql, qe, qn, qm⟩ := qh)); (try (have qh := xx.one (b := w.heap.size + 1) (by (try simp only [World.size_alloc_]); omega); obtain ⟨qc, qf, ql, qe, qn, qm⟩ := qh)); (try (have qh := xx.one (b := w.heap.size + 1 + 1) (by (try simp only [World.size_alloc_]); omega); obtain ⟨qc, qf, ql, qe, qn, qm⟩ := qh)); (try (have qh := xx.one (b := w.heap.size + 1 + 1 + 1) (by (try simp only [World.size_alloc_]); omega); obtain ⟨qc, qf, ql, qe, qn, qm⟩ := qh))) | (go_at_call 46; refine (Sub_any b.hi b.lo _).mono ?_; rintro e wx ⟨rfl, xx⟩; obtain ⟨xc, xf, xl, xe, xn, xm⟩ := xx.look; have xz := xx.size; (try simp only [World.size_alloc_, World.size_setCell_] at xz); (try (have qh := xx.one (b := w.heap.size) (by (try simp only [World.size_alloc_, World.size_setCell_]); omega); obtain ⟨qc, qf, ql, qe, qn, qm⟩ := qh)); (try (have qh := xx.one (b := w.heap.size + 1) (by (try simp only [World.size_alloc_, World.size_setCell_]); omega); obtain ⟨qc, qf, ql, qe, qn, qm⟩ := qh)); (try (have qh := xx.one (b := w.heap.size + 1 + 1) (by (try simp only [World.size_alloc_, World.size_setCell_]); omega); obtain ⟨qc, qf, ql, qe, qn, qm⟩ := qh)); (try (have qh := xx.one (b := w.heap.size + 1 + 1 + 1) (by (try simp only [World.size_alloc_, World.size_setCell_]); omega); obtain ⟨qc, qf, ql, qe, qn, qm⟩ := qh))))
   refine bodyPost_ret (v := .agg #[.int .i64 (addP b.hi (scaleP b.lo (-1))).x, .int .i64 (addP b.hi (scaleP b.lo (-1))).y, .int .i64 (addP b.hi (scaleP b.lo (-1))).z]) ?_ rfl ?_
   · simp (maxDischargeDepth := 9) only [results, Tryz.results57]
     first
      | (go_simp; done)
      | (go_simp; simp; done)
      | (simp (maxDischargeDepth := 9) [go_sem, *]; done)
      | (simp (maxDischargeDepth := 9) [go_sem, *]; simp)
   · exact ⟨rfl, byX⟩
 · rw [hq] at hc
   have HC := Lib.hid hc
   clear hc hq
   simp only [if_true]
   go_enter Tryz.func57, Tryz.ntmps57
   go_wp2_with (first | (go_at_call 49; refine (HC.out _).mono ?_; rintro e wx ⟨rfl, xx⟩; obtain ⟨xc, xf, xl, xe, xn, xm⟩ := xx.look; have xz := xx.size; (try simp only [World.size_alloc_] at xz); (try (have qh := xx.one (b := w.heap.size) (by (try simp only [World.size_alloc_]); omega); obtain ⟨qc, qf, ql, qe, qn, qm⟩ := qh)); (try (have qh := xx.one (b := w.heap.size + 1) (by (try simp only [World.size_alloc_]); omega); obtain ⟨qc, qf, ql, qe, qn, qm⟩ := qh)); (try (have qh := xx.one (b := w.heap.size + 1 + 1) (by (try simp only [World.size_alloc_]); omega); obtain ⟨qc, qf, ql, qe, qn, qm⟩ := qh)); (try (have qh := xx.one (b := w.heap.size + 1 + 1 + 1) (by (try simp only [World.size_alloc_]); omega); obtain ⟨qc, qf, ql, qe, qn, qm⟩ := qh))))
   refine bodyPost_ret (v := .agg #[.int .i64 zeroPt.x, .int .i64 zeroPt.y, .int .i64 zeroPt.z]) ?_ rfl ?_
   · simp (maxDischargeDepth := 9) only [results, Tryz.results57]
     first
      | (go_simp; done)
      | (go_simp; simp [zeroPt]; done)
      | (simp (maxDischargeDepth := 9) [go_sem, *]; done)
      | (simp (maxDischargeDepth := 9) [go_sem, *]; simp [zeroPt])
   · exact ⟨rfl, byX⟩
end Go.Proofs.YtlinhgannajfpaaGreatDoor

/- Symmetries, on the reference's side: Hull of two boxes that are not empty, Shift, TurnCell, Turn, TurnBox. -/
namespace Go.Proofs.YtlinhgannajfpaaGreatDoor
open Go Go.RowKit

def lowH (a b : Bx) : Nat → List Value
 | 0 => [.int .i64 a.lo.x, .int .i64 a.lo.y, .int .i64 a.lo.z]
 | 1 => [.int .i64 (min a.lo.x b.lo.x), .int .i64 a.lo.y, .int .i64 a.lo.z]
 | 2 => [.int .i64 (min a.lo.x b.lo.x), .int .i64 (min a.lo.y b.lo.y), .int .i64 a.lo.z]
 | _ => [.int .i64 (min a.lo.x b.lo.x), .int .i64 (min a.lo.y b.lo.y), .int .i64 (min a.lo.z b.lo.z)]
def highH (a b : Bx) : Nat → List Value
 | 0 => [.int .i64 a.hi.x, .int .i64 a.hi.y, .int .i64 a.hi.z]
 | 1 => [.int .i64 (max a.hi.x b.hi.x), .int .i64 a.hi.y, .int .i64 a.hi.z]
 | 2 => [.int .i64 (max a.hi.x b.hi.x), .int .i64 (max a.hi.y b.hi.y), .int .i64 a.hi.z]
 | _ => [.int .i64 (max a.hi.x b.hi.x), .int .i64 (max a.hi.y b.hi.y), .int .i64 (max a.hi.z b.hi.z)]
structure HulR (a b : Bx) (n2 nL nH nM nX : Nat) (w : World) (k : Nat) (wr : World) : Prop where
 L : Arr wr nL 102 (lowH a b k)
 H : Arr wr nH 102 (highH a b k)
 M : Arr wr nM 102 [.int .i64 b.lo.x, .int .i64 b.lo.y, .int .i64 b.lo.z]
 X : Arr wr nX 102 [.int .i64 b.hi.x, .int .i64 b.hi.y, .int .i64 b.hi.z]
 O : Arr wr n2 27 [.int .i64 zeroBx.lo.x, .int .i64 zeroBx.lo.y, .int .i64 zeroBx.lo.z, .int .i64 zeroBx.hi.x, .int .i64 zeroBx.hi.y, .int .i64 zeroBx.hi.z]
 ext : Ext w wr
def hullB (a b : Bx) : Bx := ⟨⟨min a.lo.x b.lo.x, min a.lo.y b.lo.y, min a.lo.z b.lo.z⟩, ⟨max a.hi.x b.hi.x, max a.hi.y b.hi.y, max a.hi.z b.hi.z⟩⟩
set_option maxRecDepth 100000 in
set_option maxHeartbeats 8000000 in
theorem rHull_any (a b : Bx) (ha : emptyB a = false) (hb : emptyB b = false) (w : World) :
    Calls Tryz.prog 82 #[.agg #[.int .i64 a.lo.x, .int .i64 a.lo.y, .int .i64 a.lo.z, .int .i64 a.hi.x, .int .i64 a.hi.y, .int .i64 a.hi.z], .agg #[.int .i64 b.lo.x, .int .i64 b.lo.y, .int .i64 b.lo.z, .int .i64 b.hi.x, .int .i64 b.hi.y, .int .i64 b.hi.z]] w fun e w' => e = .returned (.agg #[.int .i64 (hullB a b).lo.x, .int .i64 (hullB a b).lo.y, .int .i64 (hullB a b).lo.z, .int .i64 (hullB a b).hi.x, .int .i64 (hullB a b).hi.y, .int .i64 (hullB a b).hi.z]) ∧ Ext w w' := by
 have hm := mixed
 have hG := near_old
 have HEa := Lib.hid (show ∀ w' : World, Calls Tryz.prog 52 #[.agg #[.int .i64 a.lo.x, .int .i64 a.lo.y, .int .i64 a.lo.z, .int .i64 a.hi.x, .int .i64 a.hi.y, .int .i64 a.hi.z]] w' fun e w'' => e = .returned (.bool false) ∧ Ext w' w'' by rw [← ha]; exact refEmpty_any a)
 have HEb := Lib.hid (show ∀ w' : World, Calls Tryz.prog 52 #[.agg #[.int .i64 b.lo.x, .int .i64 b.lo.y, .int .i64 b.lo.z, .int .i64 b.hi.x, .int .i64 b.hi.y, .int .i64 b.hi.z]] w' fun e w'' => e = .returned (.bool false) ∧ Ext w' w'' by rw [← hb]; exact refEmpty_any b)
 clear ha hb
 obtain ⟨c1, h1⟩ : ∃ c, c = (hullB a b).lo := ⟨_, rfl⟩
 obtain ⟨c2, h2⟩ : ∃ c, c = (hullB a b).hi := ⟨_, rfl⟩
 have HC1 := Lib.hid h1; have HC2 := Lib.hid h2
 have hd : hullB a b = ⟨c1, c2⟩ := by rw [h1, h2]
 rw [hd]
 clear hd h1 h2
 go_enter Tryz.func82, Tryz.ntmps82
 go_upto_region 1 with fail
 obtain ⟨W0, hW⟩ : ∃ W, W = ((w.alloc (.cells #[.int .i64 a.lo.x, .int .i64 a.lo.y, .int .i64 a.lo.z, .int .i64 a.hi.x, .int .i64 a.hi.y, .int .i64 a.hi.z] 27)).alloc (.cells #[.int .i64 b.lo.x, .int .i64 b.lo.y, .int .i64 b.lo.z, .int .i64 b.hi.x, .int .i64 b.hi.y, .int .i64 b.hi.z] 27)).alloc (.cells #[.int .i64 0, .int .i64 0, .int .i64 0, .int .i64 0, .int .i64 0, .int .i64 0] 27) := ⟨_, rfl⟩
 have hx0 := Lib.hid (show Ext w W0 by rw [hW]; exact byX)
 have H0 := Lib.hid (show Arr W0 w.heap.size 27 [.int .i64 a.lo.x, .int .i64 a.lo.y, .int .i64 a.lo.z, .int .i64 a.hi.x, .int .i64 a.hi.y, .int .i64 a.hi.z] by rw [hW]; exact ((Arr.new w _ _).alloc _).alloc _)
 have H1 := Lib.hid (show Arr W0 (w.heap.size + 1) 27 [.int .i64 b.lo.x, .int .i64 b.lo.y, .int .i64 b.lo.z, .int .i64 b.hi.x, .int .i64 b.hi.y, .int .i64 b.hi.z] by rw [hW]; exact (Arr.new1 w _ _ _).alloc _)
 have H2 := Lib.hid (show Arr W0 (w.heap.size + 1 + 1) 27 [.int .i64 zeroBx.lo.x, .int .i64 zeroBx.lo.y, .int .i64 zeroBx.lo.z, .int .i64 zeroBx.hi.x, .int .i64 zeroBx.hi.y, .int .i64 zeroBx.hi.z] by
  rw [hW]
  have h := Arr.new ((w.alloc (.cells #[.int .i64 a.lo.x, .int .i64 a.lo.y, .int .i64 a.lo.z, .int .i64 a.hi.x, .int .i64 a.hi.y, .int .i64 a.hi.z] 27)).alloc (.cells #[.int .i64 b.lo.x, .int .i64 b.lo.y, .int .i64 b.lo.z, .int .i64 b.hi.x, .int .i64 b.hi.y, .int .i64 b.hi.z] 27)) 27 [.int .i64 0, .int .i64 0, .int .i64 0, .int .i64 0, .int .i64 0, .int .i64 0]
  simpa only [World.size_alloc_, zeroBx] using h)
 rw [← hW]
 clear hW
 go_upto_region 2 with (first
  | (refine ldB 27 2 H0.out Tryz.underlying27 ?_) | (refine ldB 27 2 (H0.out.alloc _) Tryz.underlying27 ?_) | (refine ldB 27 2 ((H0.out.alloc _).alloc _) Tryz.underlying27 ?_)
  | (go_at_call 52; refine (HEa.out _).mono ?_; rintro e W1 ⟨rfl, hx⟩; have HX1 := Lib.hid (hx0.out.trans hx); have H0 := Lib.hid (H0.out.ext hx); have H1 := Lib.hid (H1.out.ext hx); have H2 := Lib.hid (H2.out.ext hx); clear hx))
 go_upto_region 9 with (first
  | (refine ldB 27 3 H1.out Tryz.underlying27 ?_) | (refine ldB 27 3 (H1.out.alloc _) Tryz.underlying27 ?_) | (refine ldB 27 3 ((H1.out.alloc _).alloc _) Tryz.underlying27 ?_)
  | (go_at_call 52; refine (HEb.out _).mono ?_; rintro e W2 ⟨rfl, hx⟩; have HX2 := Lib.hid (HX1.out.trans hx); have H0 := Lib.hid (H0.out.ext hx); have H1 := Lib.hid (H1.out.ext hx); have H2 := Lib.hid (H2.out.ext hx); clear hx))
 have hx2 := HX2.out
 have B0 := H0.out; have B1 := H1.out; have B2 := H2.out
 clear H0 H1 H2 HX1 HX2 HEa HEb hx0
 have hl2 := B2.lt
 go_wp2_with (first | (refine wpList_load_part 25 (.tmp 25) rfl rfl B0 0 [.int .i64 a.lo.x, .int .i64 a.lo.y, .int .i64 a.lo.z] rfl rfl _ Tryz.underlying25 rfl (by kernel_rfl) ?_) | (refine wpList_load_part 25 (.tmp 25) rfl rfl (B0.alloc _) 0 [.int .i64 a.lo.x, .int .i64 a.lo.y, .int .i64 a.lo.z] rfl rfl _ Tryz.underlying25 rfl (by kernel_rfl) ?_))
 ((refine (reflist_any a.lo _).mono ?_); rintro e wa ⟨rfl, xx⟩; have xz := xx.size; (try simp only [World.size_alloc_, World.size_setCell_] at xz); obtain ⟨B0, cB0, fB0, lB0⟩ := Arr.look (w' := wa) B0 byX; obtain ⟨B1, cB1, fB1, lB1⟩ := Arr.look (w' := wa) B1 byX; obtain ⟨B2, cB2, fB2, lB2⟩ := Arr.look (w' := wa) B2 byX)
 have zA := B2.lt
 go_wp2_with (first | (refine wpList_load_part 25 (.tmp 28) rfl rfl B0 3 [.int .i64 a.hi.x, .int .i64 a.hi.y, .int .i64 a.hi.z] rfl rfl _ Tryz.underlying25 rfl (by kernel_rfl) ?_) | (refine wpList_load_part 25 (.tmp 28) rfl rfl (B0.alloc _) 3 [.int .i64 a.hi.x, .int .i64 a.hi.y, .int .i64 a.hi.z] rfl rfl _ Tryz.underlying25 rfl (by kernel_rfl) ?_))
 ((refine (reflist_any a.hi _).mono ?_); rintro e wb ⟨rfl, xx⟩; have xz := xx.size; (try simp only [World.size_alloc_] at xz); obtain ⟨B0, cB0, fB0, lB0⟩ := Arr.look (w' := wb) B0 byX; obtain ⟨B1, cB1, fB1, lB1⟩ := Arr.look (w' := wb) B1 byX; obtain ⟨B2, cB2, fB2, lB2⟩ := Arr.look (w' := wb) B2 byX)
 have BL := (Arr.new wa 102 [.int .i64 a.lo.x, .int .i64 a.lo.y, .int .i64 a.lo.z]).ext xx
 have zB := BL.lt
 go_wp2_with (first | (refine wpList_load_part 25 (.tmp 31) rfl rfl B1 0 [.int .i64 b.lo.x, .int .i64 b.lo.y, .int .i64 b.lo.z] rfl rfl _ Tryz.underlying25 rfl (by kernel_rfl) ?_) | (refine wpList_load_part 25 (.tmp 31) rfl rfl (B1.alloc _) 0 [.int .i64 b.lo.x, .int .i64 b.lo.y, .int .i64 b.lo.z] rfl rfl _ Tryz.underlying25 rfl (by kernel_rfl) ?_))
 ((refine (reflist_any b.lo _).mono ?_); rintro e wc ⟨rfl, xx⟩; have xz := xx.size; (try simp only [World.size_alloc_] at xz); obtain ⟨B0, cB0, fB0, lB0⟩ := Arr.look (w' := wc) B0 byX; obtain ⟨B1, cB1, fB1, lB1⟩ := Arr.look (w' := wc) B1 byX; obtain ⟨B2, cB2, fB2, lB2⟩ := Arr.look (w' := wc) B2 byX; obtain ⟨BL, cBL, fBL, lBL⟩ := Arr.look (w' := wc) BL byX)
 have BH := (Arr.new wb 102 [.int .i64 a.hi.x, .int .i64 a.hi.y, .int .i64 a.hi.z]).ext xx
 have zC := BH.lt
 go_wp2_with (first | (refine wpList_load_part 25 (.tmp 34) rfl rfl B1 3 [.int .i64 b.hi.x, .int .i64 b.hi.y, .int .i64 b.hi.z] rfl rfl _ Tryz.underlying25 rfl (by kernel_rfl) ?_) | (refine wpList_load_part 25 (.tmp 34) rfl rfl (B1.alloc _) 3 [.int .i64 b.hi.x, .int .i64 b.hi.y, .int .i64 b.hi.z] rfl rfl _ Tryz.underlying25 rfl (by kernel_rfl) ?_))
 ((refine (reflist_any b.hi _).mono ?_); rintro e wd ⟨rfl, xx⟩; have xz := xx.size; (try simp only [World.size_alloc_] at xz); obtain ⟨B0, cB0, fB0, lB0⟩ := Arr.look (w' := wd) B0 byX; obtain ⟨B1, cB1, fB1, lB1⟩ := Arr.look (w' := wd) B1 byX; obtain ⟨B2, cB2, fB2, lB2⟩ := Arr.look (w' := wd) B2 byX; obtain ⟨BL, cBL, fBL, lBL⟩ := Arr.look (w' := wd) BL byX; obtain ⟨BH, cBH, fBH, lBH⟩ := Arr.look (w' := wd) BH byX)
 have BM := (Arr.new wc 102 [.int .i64 b.lo.x, .int .i64 b.lo.y, .int .i64 b.lo.z]).ext xx
 have zD := BM.lt
 have hxd : Ext w wd := hx2.trans (by clear hx2; exact byX)
 clear xx xz
 have HR0 := Lib.hid (HulR.mk (BL.alloc (.cells #[.int .i64 b.hi.x, .int .i64 b.hi.y, .int .i64 b.hi.z] 102)) (BH.alloc _) (BM.alloc _) (Arr.new wd 102 [.int .i64 b.hi.x, .int .i64 b.hi.y, .int .i64 b.hi.z]) (B2.alloc _) (hxd.alloc _) : HulR a b (w.heap.size + 1 + 1) wa.heap.size wb.heap.size wc.heap.size wd.heap.size w 0 (wd.alloc (.cells #[.int .i64 b.hi.x, .int .i64 b.hi.y, .int .i64 b.hi.z] 102)))
 clear cBL fBL lBL cBH fBH lBH cB0 fB0 lB0 cB1 fB1 lB1 cB2 fB2 lB2
 go_wp2_with fail
 go_loopw [11] (fun i wr => ∃ k : Nat, k ≤ 3 ∧ i = .int .i64 k ∧ HulR a b (w.heap.size + 1 + 1) wa.heap.size wb.heap.size wc.heap.size wd.heap.size w k wr) (fun i _ => 3 - (intOf i).toNat)
 case atStart => exact ⟨0, by omega, rfl, HR0.out⟩
 case round =>
  obtain ⟨k, hk, rfl, hR⟩ := hrel
  obtain rfl | rfl | rfl | rfl : k = 0 ∨ k = 1 ∨ k = 2 ∨ k = 3 := by omega
  · have L := hR.L.cell; have H := hR.H.cell; have M := hR.M.cell; have X := hR.X.cell
    have qL := hR.L.lt; have qH := hR.H.lt; have qM := hR.M.lt; have qX := hR.X.lt
    simp only [lowH, highH] at L H
    have HR := Lib.hid hR; clear hR
    go_wp2_with fail
    refine wp_region_near_tail 9 (by assumption) (by kernel_rfl) ?_
    simp only [List.take_succ_cons, List.take_zero, List.drop_succ_cons, List.drop_zero]
    repeat (go_big_quiet_step (fail))
    refine wpQuiet_nil ?_
    intro w1 hw1
    have hy := Ext.of_near hw1
    clear hw1
    have L1 := HR.out.L.ext hy; have H1 := HR.out.H.ext hy; have M1 := HR.out.M.ext hy; have X1 := HR.out.X.ext hy; have O1 := HR.out.O.ext hy
    have e1 := HR.out.ext.trans hy
    clear hy
    have V := Int.le_refl 0
    have L2 := L1.set 0 (.int .i64 (min a.lo.x b.lo.x))
    have H2 := H1.other (p := ⟨wa.heap.size, 0, none⟩) (by simp only; omega) (.int .i64 (min a.lo.x b.lo.x))
    have M2 := M1.other (p := ⟨wa.heap.size, 0, none⟩) (by simp only; omega) (.int .i64 (min a.lo.x b.lo.x))
    have X2 := X1.other (p := ⟨wa.heap.size, 0, none⟩) (by simp only; omega) (.int .i64 (min a.lo.x b.lo.x))
    have O2 := O1.other (p := ⟨wa.heap.size, 0, none⟩) (by simp only; omega) (.int .i64 (min a.lo.x b.lo.x))
    have e2 := e1.setCell (p := ⟨wa.heap.size, 0, none⟩) (by simp only; omega) (.int .i64 (min a.lo.x b.lo.x))
    have L3 := L1.cell; have fL := L1.frozen
    have H := H2.cell; have M := M2.cell; have X := X2.cell
    have qH := H2.lt; have qX := X2.lt
    simp only [World.size_setCell_] at qH qX
    simp only [lowH, highH] at L3 H
    have HL := Lib.hid L2; have HH := Lib.hid H2; have HM := Lib.hid M2; have HX := Lib.hid X2; have HO := Lib.hid O2; have HE := Lib.hid e2
    clear L1 H1 M1 X1 O1 e1 L2 H2 M2 X2 O2 e2 V
    go_wp2_with fail
    refine wp_region_near_tail 9 (by assumption) (by kernel_rfl) ?_
    simp only [List.take_succ_cons, List.take_zero, List.drop_succ_cons, List.drop_zero]
    repeat (go_big_quiet_step (fail))
    refine wpQuiet_nil ?_
    intro w1 hw1
    have hy := Ext.of_near hw1
    clear hw1
    have L1 := HL.out.ext hy; have H1 := HH.out.ext hy; have M1 := HM.out.ext hy; have X1 := HX.out.ext hy; have O1 := HO.out.ext hy
    have e1 := HE.out.trans hy
    clear hy
    have H3 := H1.cell; have fH := H1.frozen
    simp only [highH] at H3
    have HL := Lib.hid L1; have HH := Lib.hid H1; have HM := Lib.hid M1; have HX := Lib.hid X1; have HO := Lib.hid O1; have HE := Lib.hid e1
    clear L1 H1 M1 X1 O1 e1
    go_wp2
    go_roundw
    case rel =>
     exact ⟨1, by omega, rfl, HL.out.other (by simp only; omega) _, HH.out.set 0 (.int .i64 (max a.hi.x b.hi.x)), HM.out.other (by simp only; omega) _, HX.out.other (by simp only; omega) _, HO.out.other (by simp only; omega) _, HE.out.setCell (by simp only; omega) _⟩
    case measure => simp [intOf]
  · have L := hR.L.cell; have H := hR.H.cell; have M := hR.M.cell; have X := hR.X.cell
    have qL := hR.L.lt; have qH := hR.H.lt; have qM := hR.M.lt; have qX := hR.X.lt
    simp only [lowH, highH] at L H
    have HR := Lib.hid hR; clear hR
    go_wp2_with fail
    refine wp_region_near_tail 9 (by assumption) (by kernel_rfl) ?_
    simp only [List.take_succ_cons, List.take_zero, List.drop_succ_cons, List.drop_zero]
    repeat (go_big_quiet_step (fail))
    refine wpQuiet_nil ?_
    intro w1 hw1
    have hy := Ext.of_near hw1
    clear hw1
    have L1 := HR.out.L.ext hy; have H1 := HR.out.H.ext hy; have M1 := HR.out.M.ext hy; have X1 := HR.out.X.ext hy; have O1 := HR.out.O.ext hy
    have e1 := HR.out.ext.trans hy
    clear hy
    have V := Int.le_refl 0
    have L2 := L1.set 1 (.int .i64 (min a.lo.y b.lo.y))
    have H2 := H1.other (p := ⟨wa.heap.size, 1, none⟩) (by simp only; omega) (.int .i64 (min a.lo.y b.lo.y))
    have M2 := M1.other (p := ⟨wa.heap.size, 1, none⟩) (by simp only; omega) (.int .i64 (min a.lo.y b.lo.y))
    have X2 := X1.other (p := ⟨wa.heap.size, 1, none⟩) (by simp only; omega) (.int .i64 (min a.lo.y b.lo.y))
    have O2 := O1.other (p := ⟨wa.heap.size, 1, none⟩) (by simp only; omega) (.int .i64 (min a.lo.y b.lo.y))
    have e2 := e1.setCell (p := ⟨wa.heap.size, 1, none⟩) (by simp only; omega) (.int .i64 (min a.lo.y b.lo.y))
    have L3 := L1.cell; have fL := L1.frozen
    have H := H2.cell; have M := M2.cell; have X := X2.cell
    have qH := H2.lt; have qX := X2.lt
    simp only [World.size_setCell_] at qH qX
    simp only [lowH, highH] at L3 H
    have HL := Lib.hid L2; have HH := Lib.hid H2; have HM := Lib.hid M2; have HX := Lib.hid X2; have HO := Lib.hid O2; have HE := Lib.hid e2
    clear L1 H1 M1 X1 O1 e1 L2 H2 M2 X2 O2 e2 V
    go_wp2_with fail
    refine wp_region_near_tail 9 (by assumption) (by kernel_rfl) ?_
    simp only [List.take_succ_cons, List.take_zero, List.drop_succ_cons, List.drop_zero]
    repeat (go_big_quiet_step (fail))
    refine wpQuiet_nil ?_
    intro w1 hw1
    have hy := Ext.of_near hw1
    clear hw1
    have L1 := HL.out.ext hy; have H1 := HH.out.ext hy; have M1 := HM.out.ext hy; have X1 := HX.out.ext hy; have O1 := HO.out.ext hy
    have e1 := HE.out.trans hy
    clear hy
    have H3 := H1.cell; have fH := H1.frozen
    simp only [highH] at H3
    have HL := Lib.hid L1; have HH := Lib.hid H1; have HM := Lib.hid M1; have HX := Lib.hid X1; have HO := Lib.hid O1; have HE := Lib.hid e1
    clear L1 H1 M1 X1 O1 e1
    go_wp2
    go_roundw
    case rel =>
     exact ⟨2, by omega, rfl, HL.out.other (by simp only; omega) _, HH.out.set 1 (.int .i64 (max a.hi.y b.hi.y)), HM.out.other (by simp only; omega) _, HX.out.other (by simp only; omega) _, HO.out.other (by simp only; omega) _, HE.out.setCell (by simp only; omega) _⟩
    case measure => simp [intOf]
  · have L := hR.L.cell; have H := hR.H.cell; have M := hR.M.cell; have X := hR.X.cell
    have qL := hR.L.lt; have qH := hR.H.lt; have qM := hR.M.lt; have qX := hR.X.lt
    simp only [lowH, highH] at L H
    have HR := Lib.hid hR; clear hR
    go_wp2_with fail
    refine wp_region_near_tail 9 (by assumption) (by kernel_rfl) ?_
    simp only [List.take_succ_cons, List.take_zero, List.drop_succ_cons, List.drop_zero]
    repeat (go_big_quiet_step (fail))
    refine wpQuiet_nil ?_
    intro w1 hw1
    have hy := Ext.of_near hw1
    clear hw1
    have L1 := HR.out.L.ext hy; have H1 := HR.out.H.ext hy; have M1 := HR.out.M.ext hy; have X1 := HR.out.X.ext hy; have O1 := HR.out.O.ext hy
    have e1 := HR.out.ext.trans hy
    clear hy
    have V := Int.le_refl 0
    have L2 := L1.set 2 (.int .i64 (min a.lo.z b.lo.z))
    have H2 := H1.other (p := ⟨wa.heap.size, 2, none⟩) (by simp only; omega) (.int .i64 (min a.lo.z b.lo.z))
    have M2 := M1.other (p := ⟨wa.heap.size, 2, none⟩) (by simp only; omega) (.int .i64 (min a.lo.z b.lo.z))
    have X2 := X1.other (p := ⟨wa.heap.size, 2, none⟩) (by simp only; omega) (.int .i64 (min a.lo.z b.lo.z))
    have O2 := O1.other (p := ⟨wa.heap.size, 2, none⟩) (by simp only; omega) (.int .i64 (min a.lo.z b.lo.z))
    have e2 := e1.setCell (p := ⟨wa.heap.size, 2, none⟩) (by simp only; omega) (.int .i64 (min a.lo.z b.lo.z))
    have L3 := L1.cell; have fL := L1.frozen
    have H := H2.cell; have M := M2.cell; have X := X2.cell
    have qH := H2.lt; have qX := X2.lt
    simp only [World.size_setCell_] at qH qX
    simp only [lowH, highH] at L3 H
    have HL := Lib.hid L2; have HH := Lib.hid H2; have HM := Lib.hid M2; have HX := Lib.hid X2; have HO := Lib.hid O2; have HE := Lib.hid e2
    clear L1 H1 M1 X1 O1 e1 L2 H2 M2 X2 O2 e2 V
    go_wp2_with fail
    refine wp_region_near_tail 9 (by assumption) (by kernel_rfl) ?_
    simp only [List.take_succ_cons, List.take_zero, List.drop_succ_cons, List.drop_zero]
    repeat (go_big_quiet_step (fail))
    refine wpQuiet_nil ?_
    intro w1 hw1
    have hy := Ext.of_near hw1
    clear hw1
    have L1 := HL.out.ext hy; have H1 := HH.out.ext hy; have M1 := HM.out.ext hy; have X1 := HX.out.ext hy; have O1 := HO.out.ext hy
    have e1 := HE.out.trans hy
    clear hy
    have H3 := H1.cell; have fH := H1.frozen
    simp only [highH] at H3
    have HL := Lib.hid L1; have HH := Lib.hid H1; have HM := Lib.hid M1; have HX := Lib.hid X1; have HO := Lib.hid O1; have HE := Lib.hid e1
    clear L1 H1 M1 X1 O1 e1
    go_wp2
    go_roundw
    case rel =>
     exact ⟨3, by omega, rfl, HL.out.other (by simp only; omega) _, HH.out.set 2 (.int .i64 (max a.hi.z b.hi.z)), HM.out.other (by simp only; omega) _, HX.out.other (by simp only; omega) _, HO.out.other (by simp only; omega) _, HE.out.setCell (by simp only; omega) _⟩
    case measure => simp [intOf]
  · have L := HulR.L hR; have H := HulR.H hR
    have R0 := HulR.O hR; have he := HulR.ext hR
    simp only [lowH, highH] at L H
    have HL := Lib.hid L; have HH := Lib.hid H; have HO := Lib.hid R0; have HE := Lib.hid he
    clear L H R0 he hR HR0 hxd hx2
    have HL1 := Lib.hid (show Arr wr wa.heap.size 102 [.int .i64 c1.x, .int .i64 c1.y, .int .i64 c1.z] by rw [HC1.out]; exact HL.out)
    have HH1 := Lib.hid (show Arr wr wb.heap.size 102 [.int .i64 c2.x, .int .i64 c2.y, .int .i64 c2.z] by rw [HC2.out]; exact HH.out)
    have HF1 := Lib.hid (refof_any c1); have HF2 := Lib.hid (refof_any c2)
    clear HL HH
    go_upto_region 18 with fail
    have L := HL1.out.cell; have lL := HL1.out.lt
    have H := HH1.out.cell; have lH := HH1.out.lt
    refine wp_region_near_tail 5 (by assumption) (by kernel_rfl) ?_
    simp only [List.take_succ_cons, List.take_zero, List.drop_succ_cons, List.drop_zero]
    repeat (go_big_quiet_step ((go_at_call 98; first | (with_reducible exact near_call (HF1.out _)) | (with_reducible exact near_call (HF2.out _)))))
    refine wpQuiet_nil ?_
    intro w1 hw1
    have hy := Ext.of_near hw1
    clear hw1
    have HO2 := Lib.hid (HO.out.ext hy); have HE2 := Lib.hid (HE.out.trans hy)
    clear hy L H lL lH
    go_wp2_with (refine wpList_store_blk 27 (.tmp 4) (.tmp 63) rfl rfl HO2.out [.int .i64 c1.x, .int .i64 c1.y, .int .i64 c1.z, .int .i64 c2.x, .int .i64 c2.y, .int .i64 c2.z] rfl rfl (by kernel_rfl) rfl rfl ?_)
    refine bodyPost_ret (v := .agg #[.int .i64 c1.x, .int .i64 c1.y, .int .i64 c1.z, .int .i64 c2.x, .int .i64 c2.y, .int .i64 c2.z]) ?_ rfl ⟨rfl, HE2.out.setRow (by omega) _⟩
    exact results_cell_row Tryz.results82 _ _ _ _ _ _ _ rfl (HO2.out.setRow [.int .i64 c1.x, .int .i64 c1.y, .int .i64 c1.z, .int .i64 c2.x, .int .i64 c2.y, .int .i64 c2.z]) Tryz.underlying27 rfl (by kernel_rfl)
end Go.Proofs.YtlinhgannajfpaaGreatDoor

/- Hidden facts about blocks, carried on: short words for printed walks. -/
namespace Go.Proofs.YtlinhgannajfpaaGreatDoor
open Go Go.RowKit

section
variable {a w w' W : World} {o : Obj} {cs : Array Value} {b g : Nat} {t : TypeId} {vs zs ys : List Value}
theorem xNew (h : Hid (Ext a w)) (hW : W = (w.alloc o).setRow w.heap.size cs) : Hid (Ext a W) := Lib.hid (by rw [hW]; exact (h.out.alloc _).setRow (g := w.heap.size) h.out.size _)
theorem aNew (h : Hid (Arr w b t vs)) (hW : W = (w.alloc o).setRow w.heap.size cs) : Hid (Arr W b t vs) := Lib.hid (by rw [hW]; exact (h.out.alloc _).setRow_other (by have := h.out.lt; omega) _)
theorem nNew (hW : W = (w.alloc (.cells zs.toArray t)).setRow w.heap.size ys.toArray) : Hid (Arr W w.heap.size t ys) := Lib.hid (by rw [hW]; exact (Arr.new w t zs).setRow ys)
theorem xRow (h : Hid (Ext a w)) (hW : W = w.setRow g cs) (hg : a.heap.size ≤ g) : Hid (Ext a W) := Lib.hid (by rw [hW]; exact h.out.setRow hg _)
theorem aRow (h : Hid (Arr w b t vs)) (hW : W = w.setRow g cs) (hne : b ≠ g) : Hid (Arr W b t vs) := Lib.hid (by rw [hW]; exact h.out.setRow_other hne _)
theorem nRow (h : Hid (Arr w b t vs)) (hW : W = w.setRow b ys.toArray) : Hid (Arr W b t ys) := Lib.hid (by rw [hW]; exact h.out.setRow ys)
theorem xEx (h : Hid (Ext a w)) (hx : Ext w w') : Hid (Ext a w') := Lib.hid (h.out.trans hx)
theorem aEx (h : Hid (Arr w b t vs)) (hx : Ext w w') : Hid (Arr w' b t vs) := Lib.hid (h.out.ext hx)
theorem aLt (h : Hid (Arr w b t vs)) : Hid (b < w.heap.size) := Lib.hid h.out.lt
end
end Go.Proofs.YtlinhgannajfpaaGreatDoor

/- Symmetries and boxes, on the reference's side: Shift, TurnCell, TurnBox, BallBox, Target. -/
namespace Go.Proofs.YtlinhgannajfpaaGreatDoor
open Go Go.RowKit

set_option maxHeartbeats 1000000 in
theorem rAdd_any (p q : Pt) (w : World) :
    Calls Tryz.prog 36 #[.agg #[.int .i64 p.x, .int .i64 p.y, .int .i64 p.z], .agg #[.int .i64 q.x, .int .i64 q.y, .int .i64 q.z]] w fun e w' => e = .returned (.agg #[.int .i64 (addP p q).x, .int .i64 (addP p q).y, .int .i64 (addP p q).z]) ∧ Ext w w' := by
 go_enter Tryz.func36, Tryz.ntmps36
 go_wp2
 refine bodyPost_ret (v := .agg #[.int .i64 (addP p q).x, .int .i64 (addP p q).y, .int .i64 (addP p q).z]) ?_ rfl ?_
 · simp (maxDischargeDepth := 9) only [results, Tryz.results36]
   first
    | (go_simp; done)
    | (go_simp; simp [addP]; done)
    | (simp (maxDischargeDepth := 9) [go_sem, *]; done)
    | (simp (maxDischargeDepth := 9) [go_sem, *]; simp [addP])
 · exact ⟨rfl, byX⟩

set_option maxRecDepth 100000 in
set_option maxHeartbeats 8000000 in
theorem refShift_any (b : Bx) (p : Pt) (w : World) : Calls Tryz.prog 96 #[.agg #[.int .i64 b.lo.x, .int .i64 b.lo.y, .int .i64 b.lo.z, .int .i64 b.hi.x, .int .i64 b.hi.y, .int .i64 b.hi.z], .agg #[.int .i64 p.x, .int .i64 p.y, .int .i64 p.z]] w fun e w' => e = .returned (.agg #[.int .i64 (shiftB b p).lo.x, .int .i64 (shiftB b p).lo.y, .int .i64 (shiftB b p).lo.z, .int .i64 (shiftB b p).hi.x, .int .i64 (shiftB b p).hi.y, .int .i64 (shiftB b p).hi.z]) ∧ Ext w w' := by
 have hm := mixed
 have hG := near_old
 obtain ⟨W0, hW⟩ : ∃ W, W = ((w.alloc (.cells #[.int .i64 b.lo.x, .int .i64 b.lo.y, .int .i64 b.lo.z, .int .i64 b.hi.x, .int .i64 b.hi.y, .int .i64 b.hi.z] 27)).alloc (.cells #[.int .i64 p.x, .int .i64 p.y, .int .i64 p.z] 25)).alloc (.cells #[.int .i64 0, .int .i64 0, .int .i64 0, .int .i64 0, .int .i64 0, .int .i64 0] 27) := ⟨_, rfl⟩
 have HX := Lib.hid (show Ext w W0 by rw [hW]; exact (((Ext.refl w).alloc _).alloc _).alloc _)
 have H2 := Lib.hid (show Arr W0 w.heap.size 27 [.int .i64 b.lo.x, .int .i64 b.lo.y, .int .i64 b.lo.z, .int .i64 b.hi.x, .int .i64 b.hi.y, .int .i64 b.hi.z] by rw [hW]; exact ((Arr.new w 27 [.int .i64 b.lo.x, .int .i64 b.lo.y, .int .i64 b.lo.z, .int .i64 b.hi.x, .int .i64 b.hi.y, .int .i64 b.hi.z]).alloc _).alloc _)
 have H3 := Lib.hid (show Arr W0 (w.heap.size + 1) 25 [.int .i64 p.x, .int .i64 p.y, .int .i64 p.z] by rw [hW]; have h := Arr.new (w.alloc (.cells #[.int .i64 b.lo.x, .int .i64 b.lo.y, .int .i64 b.lo.z, .int .i64 b.hi.x, .int .i64 b.hi.y, .int .i64 b.hi.z] 27)) 25 [.int .i64 p.x, .int .i64 p.y, .int .i64 p.z]; simp only [World.size_alloc_] at h; exact (h.alloc _))
 have H4 := Lib.hid (show Arr W0 (w.heap.size + 1 + 1) 27 [.int .i64 0, .int .i64 0, .int .i64 0, .int .i64 0, .int .i64 0, .int .i64 0] by rw [hW]; have h := Arr.new ((w.alloc (.cells #[.int .i64 b.lo.x, .int .i64 b.lo.y, .int .i64 b.lo.z, .int .i64 b.hi.x, .int .i64 b.hi.y, .int .i64 b.hi.z] 27)).alloc (.cells #[.int .i64 p.x, .int .i64 p.y, .int .i64 p.z] 25)) 27 [.int .i64 0, .int .i64 0, .int .i64 0, .int .i64 0, .int .i64 0, .int .i64 0]; simp only [World.size_alloc_] at h; exact h)
 go_enter Tryz.func96, Tryz.ntmps96
 go_upto_region 1 with fail
 rw [← hW]
 clear hW
 have HN0 := Lib.hid (fun W : World => rAdd_any b.lo p W)
 have HN1 := Lib.hid (fun W : World => rAdd_any b.hi p W)
 have c2 := H2.out.cell; have l2 := H2.out.lt
 have c3 := H3.out.cell; have l3 := H3.out.lt
 refine wp_region_near_tail 9 (by assumption) (by kernel_rfl) ?_
 simp only [List.take_succ_cons, List.take_zero, List.drop_succ_cons, List.drop_zero]
 repeat (go_big_quiet_step ((first | (go_at_call 36; with_reducible exact near_call (HN0.out _)) | (go_at_call 36; with_reducible exact near_call (HN1.out _)))))
 refine wpQuiet_nil ?_
 intro w1 hw1
 have hy := Ext.of_near hw1
 clear hw1
 replace HX := xEx HX hy; replace H2 := aEx H2 hy; replace H3 := aEx H3 hy; replace H4 := aEx H4 hy
 clear hy c2 l2 c3 l3
 go_wp2_with (first
  | (refine wpList_store_blk2 27 (.tmp 4) (.tmp 13) rfl rfl H4.out [.int .i64 (addP b.lo p).x, .int .i64 (addP b.lo p).y, .int .i64 (addP b.lo p).z, .int .i64 (addP b.hi p).x, .int .i64 (addP b.hi p).y, .int .i64 (addP b.hi p).z] rfl rfl (by kernel_rfl) rfl rfl rfl ?_; intro W1 hW; replace HX := xRow HX hW (by omega); replace H2 := aRow H2 hW (by omega); replace H3 := aRow H3 hW (by omega); replace H4 := nRow H4 hW; clear hW))
 refine bodyPost_ret (v := .agg #[.int .i64 (addP b.lo p).x, .int .i64 (addP b.lo p).y, .int .i64 (addP b.lo p).z, .int .i64 (addP b.hi p).x, .int .i64 (addP b.hi p).y, .int .i64 (addP b.hi p).z]) ?_ rfl ⟨rfl, HX.out⟩
 exact results_cell_row Tryz.results96 _ _ _ _ _ _ _ rfl H4.out Tryz.underlying27 rfl (by kernel_rfl)

set_option maxRecDepth 100000 in
set_option maxHeartbeats 8000000 in
theorem refTurnCell_any (s : Int) (p : Pt) (w : World) : Calls Tryz.prog 39 #[.int .i64 s, .agg #[.int .i64 p.x, .int .i64 p.y, .int .i64 p.z]] w fun e w' => e = .returned (.agg #[.int .i64 (rturnP s 1 p).x, .int .i64 (rturnP s 1 p).y, .int .i64 (rturnP s 1 p).z]) ∧ Ext w w' := by
 have hm := mixed
 have hG := near_old
 obtain ⟨W0, hW⟩ : ∃ W, W = (w.alloc (.cells #[.int .i64 p.x, .int .i64 p.y, .int .i64 p.z] 25)).alloc (.cells #[.int .i64 0, .int .i64 0, .int .i64 0] 25) := ⟨_, rfl⟩
 have HX := Lib.hid (show Ext w W0 by rw [hW]; exact ((Ext.refl w).alloc _).alloc _)
 have H3 := Lib.hid (show Arr W0 w.heap.size 25 [.int .i64 p.x, .int .i64 p.y, .int .i64 p.z] by rw [hW]; exact (Arr.new w 25 [.int .i64 p.x, .int .i64 p.y, .int .i64 p.z]).alloc _)
 have H4 := Lib.hid (show Arr W0 (w.heap.size + 1) 25 [.int .i64 0, .int .i64 0, .int .i64 0] by rw [hW]; have h := Arr.new (w.alloc (.cells #[.int .i64 p.x, .int .i64 p.y, .int .i64 p.z] 25)) 25 [.int .i64 0, .int .i64 0, .int .i64 0]; simp only [World.size_alloc_] at h; exact h)
 go_enter Tryz.func39, Tryz.ntmps39
 go_upto_region 1 with fail
 rw [← hW]
 clear hW
 go_wp2_with (first
  | (refine ldB 25 3 H3.out Tryz.underlying25 ?_) | (refine ldB 25 3 (H3.out.alloc _) Tryz.underlying25 ?_) | (refine ldB 25 3 ((H3.out.alloc _).alloc _) Tryz.underlying25 ?_)
  | (go_at_call 83; refine (turned_any s 1 p _).mono ?_; rintro e W1 ⟨rfl, hx⟩; replace HX := xEx HX hx; replace H3 := aEx H3 hx; replace H4 := aEx H4 hx; clear hx)
  | (refine wpList_store_blk2 25 (.tmp 4) (.tmp 7) rfl rfl H4.out [.int .i64 (rturnP s 1 p).x, .int .i64 (rturnP s 1 p).y, .int .i64 (rturnP s 1 p).z] rfl rfl (by kernel_rfl) rfl rfl rfl ?_; intro W2 hW; replace HX := xRow HX hW (by omega); replace H3 := aRow H3 hW (by omega); replace H4 := nRow H4 hW; clear hW))
 refine bodyPost_ret (v := .agg #[.int .i64 (rturnP s 1 p).x, .int .i64 (rturnP s 1 p).y, .int .i64 (rturnP s 1 p).z]) ?_ rfl ⟨rfl, HX.out⟩
 exact results_cell_row Tryz.results39 _ _ _ _ _ _ _ rfl H4.out Tryz.underlying25 rfl (by kernel_rfl)

set_option maxRecDepth 100000 in
set_option maxHeartbeats 8000000 in
theorem refTurn_any (s : Int) (p : Pt) (w : World) : Calls Tryz.prog 120 #[.int .i64 s, .agg #[.int .i64 p.x, .int .i64 p.y, .int .i64 p.z]] w fun e w' => e = .returned (.agg #[.int .i64 (rturnP s 0 p).x, .int .i64 (rturnP s 0 p).y, .int .i64 (rturnP s 0 p).z]) ∧ Ext w w' := by
 have hm := mixed
 have hG := near_old
 obtain ⟨W0, hW⟩ : ∃ W, W = (w.alloc (.cells #[.int .i64 p.x, .int .i64 p.y, .int .i64 p.z] 25)).alloc (.cells #[.int .i64 0, .int .i64 0, .int .i64 0] 25) := ⟨_, rfl⟩
 have HX := Lib.hid (show Ext w W0 by rw [hW]; exact ((Ext.refl w).alloc _).alloc _)
 have H3 := Lib.hid (show Arr W0 w.heap.size 25 [.int .i64 p.x, .int .i64 p.y, .int .i64 p.z] by rw [hW]; exact (Arr.new w 25 [.int .i64 p.x, .int .i64 p.y, .int .i64 p.z]).alloc _)
 have H4 := Lib.hid (show Arr W0 (w.heap.size + 1) 25 [.int .i64 0, .int .i64 0, .int .i64 0] by rw [hW]; have h := Arr.new (w.alloc (.cells #[.int .i64 p.x, .int .i64 p.y, .int .i64 p.z] 25)) 25 [.int .i64 0, .int .i64 0, .int .i64 0]; simp only [World.size_alloc_] at h; exact h)
 go_enter Tryz.func120, Tryz.ntmps120
 go_upto_region 1 with fail
 rw [← hW]
 clear hW
 go_wp2_with (first
  | (refine ldB 25 3 H3.out Tryz.underlying25 ?_) | (refine ldB 25 3 (H3.out.alloc _) Tryz.underlying25 ?_) | (refine ldB 25 3 ((H3.out.alloc _).alloc _) Tryz.underlying25 ?_)
  | (go_at_call 83; refine (turned_any s 0 p _).mono ?_; rintro e W1 ⟨rfl, hx⟩; replace HX := xEx HX hx; replace H3 := aEx H3 hx; replace H4 := aEx H4 hx; clear hx)
  | (refine wpList_store_blk2 25 (.tmp 4) (.tmp 7) rfl rfl H4.out [.int .i64 (rturnP s 0 p).x, .int .i64 (rturnP s 0 p).y, .int .i64 (rturnP s 0 p).z] rfl rfl (by kernel_rfl) rfl rfl rfl ?_; intro W2 hW; replace HX := xRow HX hW (by omega); replace H3 := aRow H3 hW (by omega); replace H4 := nRow H4 hW; clear hW))
 refine bodyPost_ret (v := .agg #[.int .i64 (rturnP s 0 p).x, .int .i64 (rturnP s 0 p).y, .int .i64 (rturnP s 0 p).z]) ?_ rfl ⟨rfl, HX.out⟩
 exact results_cell_row Tryz.results120 _ _ _ _ _ _ _ rfl H4.out Tryz.underlying25 rfl (by kernel_rfl)

def oneP : Pt := ⟨1, 1, 1⟩
def smlP (p : Pt) : Prop := (-1000000 ≤ p.x ∧ p.x ≤ 1000000) ∧ (-1000000 ≤ p.y ∧ p.y ≤ 1000000) ∧ (-1000000 ≤ p.z ∧ p.z ≤ 1000000)
def smlB (b : Bx) : Prop := smlP b.lo ∧ smlP b.hi
theorem turn_lem {s k : Int} {lo hi : Pt} (h1 : smlP lo) (h2 : smlP hi) (hx : lo.x < hi.x) (hy : lo.y < hi.y) (hz : lo.z < hi.z) :
    min (rtI s 1 lo k) (rtI s 1 (subP hi oneP) k) = min (tcI s lo k) (tcI s hi k) ∧ max (wrap64 (rtI s 1 lo k + 1)) (wrap64 (rtI s 1 (subP hi oneP) k + 1)) = max (tcI s lo k) (tcI s hi k) ∧ (-2000000 ≤ rtI s 1 lo k ∧ rtI s 1 lo k ≤ 2000000) ∧ (-2000000 ≤ rtI s 1 (subP hi oneP) k ∧ rtI s 1 (subP hi oneP) k ≤ 2000000) := by
 unfold rtI tcI
 generalize axI s k = a
 obtain ⟨⟨a1, a2⟩, ⟨a3, a4⟩, ⟨a5, a6⟩⟩ := h1
 obtain ⟨⟨b1, b2⟩, ⟨b3, b4⟩, ⟨b5, b6⟩⟩ := h2
 cases ngI s k
 · simp only [Bool.false_eq_true, if_false, cdP, subP, oneP, wrap64]
   split
   · omega
   · split <;> omega
 · simp only [if_true, cdP, subP, oneP, wrap64]
   split
   · omega
   · split <;> omega
theorem unit_ne {p : Pt} (hx : -2000000 ≤ p.x ∧ p.x ≤ 2000000) (hy : -2000000 ≤ p.y ∧ p.y ≤ 2000000) (hz : -2000000 ≤ p.z ∧ p.z ≤ 2000000) : emptyB ⟨p, addP p oneP⟩ = false := by
 unfold emptyB inP addP oneP
 simp only [Bool.not_eq_false', Bool.and_eq_true, decide_eq_true_eq, wrap64]
 omega
theorem notEmpty {b : Bx} (h : emptyB b = false) : b.lo.x < b.hi.x ∧ b.lo.y < b.hi.y ∧ b.lo.z < b.hi.z := by
 unfold emptyB inP at h
 simp only [Bool.not_eq_false', Bool.and_eq_true, decide_eq_true_eq] at h
 omega
theorem hull_turn {s : Int} {b : Bx} (hs : isT s = true) (he : emptyB b = false) (hb : smlB b) :
    hullB ⟨rturnP s 1 b.lo, addP (rturnP s 1 b.lo) oneP⟩ ⟨rturnP s 1 (subP b.hi oneP), addP (rturnP s 1 (subP b.hi oneP)) oneP⟩ = turnB s b ∧ emptyB ⟨rturnP s 1 b.lo, addP (rturnP s 1 b.lo) oneP⟩ = false ∧ emptyB ⟨rturnP s 1 (subP b.hi oneP), addP (rturnP s 1 (subP b.hi oneP)) oneP⟩ = false := by
 obtain ⟨hx, hy, hz⟩ := notEmpty he
 have k0 := turn_lem (s := s) (k := 0) hb.1 hb.2 hx hy hz
 have k1 := turn_lem (s := s) (k := 1) hb.1 hb.2 hx hy hz
 have k2 := turn_lem (s := s) (k := 2) hb.1 hb.2 hx hy hz
 have d1 : ∀ p, rturnP s 1 p = ⟨rtI s 1 p 0, rtI s 1 p 1, rtI s 1 p 2⟩ := fun p => by unfold rturnP; rw [hs]; rfl
 have d2 : ∀ p, turnP s p = ⟨tcI s p 0, tcI s p 1, tcI s p 2⟩ := fun p => by unfold turnP; rw [hs]; rfl
 refine ⟨?_, ?_, ?_⟩
 · unfold turnB
   rw [hs, he, if_pos rfl, if_neg (by decide)]
   unfold hullB
   simp only [d1, d2, addP]
   rw [← k0.1, ← k1.1, ← k2.1, ← k0.2.1, ← k1.2.1, ← k2.2.1]
   rfl
 · rw [d1]; exact unit_ne k0.2.2.1 k1.2.2.1 k2.2.2.1
 · rw [d1]; exact unit_ne k0.2.2.2 k1.2.2.2 k2.2.2.2

set_option maxRecDepth 100000 in
set_option maxHeartbeats 8000000 in
theorem refTurnBox_any (s : Int) (b : Bx) (hs : isT s = true) (he : emptyB b = false) (hb : smlB b) (w : World) : Calls Tryz.prog 38 #[.int .i64 s, .agg #[.int .i64 b.lo.x, .int .i64 b.lo.y, .int .i64 b.lo.z, .int .i64 b.hi.x, .int .i64 b.hi.y, .int .i64 b.hi.z]] w fun e w' => e = .returned (.agg #[.int .i64 (turnB s b).lo.x, .int .i64 (turnB s b).lo.y, .int .i64 (turnB s b).lo.z, .int .i64 (turnB s b).hi.x, .int .i64 (turnB s b).hi.y, .int .i64 (turnB s b).hi.z]) ∧ Ext w w' := by
 have hm := mixed
 have hG := near_old
 obtain ⟨W0, hW⟩ : ∃ W, W = (w.alloc (.cells #[.int .i64 b.lo.x, .int .i64 b.lo.y, .int .i64 b.lo.z, .int .i64 b.hi.x, .int .i64 b.hi.y, .int .i64 b.hi.z] 27)).alloc (.cells #[.int .i64 0, .int .i64 0, .int .i64 0, .int .i64 0, .int .i64 0, .int .i64 0] 27) := ⟨_, rfl⟩
 have HX := Lib.hid (show Ext w W0 by rw [hW]; exact ((Ext.refl w).alloc _).alloc _)
 have H3 := Lib.hid (show Arr W0 w.heap.size 27 [.int .i64 b.lo.x, .int .i64 b.lo.y, .int .i64 b.lo.z, .int .i64 b.hi.x, .int .i64 b.hi.y, .int .i64 b.hi.z] by rw [hW]; exact (Arr.new w 27 [.int .i64 b.lo.x, .int .i64 b.lo.y, .int .i64 b.lo.z, .int .i64 b.hi.x, .int .i64 b.hi.y, .int .i64 b.hi.z]).alloc _)
 have H4 := Lib.hid (show Arr W0 (w.heap.size + 1) 27 [.int .i64 0, .int .i64 0, .int .i64 0, .int .i64 0, .int .i64 0, .int .i64 0] by rw [hW]; have h := Arr.new (w.alloc (.cells #[.int .i64 b.lo.x, .int .i64 b.lo.y, .int .i64 b.lo.z, .int .i64 b.hi.x, .int .i64 b.hi.y, .int .i64 b.hi.z] 27)) 27 [.int .i64 0, .int .i64 0, .int .i64 0, .int .i64 0, .int .i64 0, .int .i64 0]; simp only [World.size_alloc_] at h; exact h)
 have HI := Lib.hid (show ∀ W : World, Calls Tryz.prog 81 #[.int .i64 s] W fun e w' => e = .returned (.bool true) ∧ Ext W w' by rw [← hs]; exact refis_any s)
 have HE := Lib.hid (show ∀ W : World, Calls Tryz.prog 52 #[.agg #[.int .i64 b.lo.x, .int .i64 b.lo.y, .int .i64 b.lo.z, .int .i64 b.hi.x, .int .i64 b.hi.y, .int .i64 b.hi.z]] W fun e w' => e = .returned (.bool false) ∧ Ext W w' by rw [← he]; exact refEmpty_any b)
 obtain ⟨h1, h2, h3⟩ := hull_turn hs he hb
 have HH := rHull_any _ _ h2 h3
 rw [h1] at HH
 generalize turnB s b = tb at HH ⊢
 have HT1 := Lib.hid (refTurnCell_any s b.lo)
 have HT2 := Lib.hid (refTurnCell_any s (subP b.hi oneP))
 have HS := Lib.hid (refSub_any b.hi oneP)
 generalize rturnP s 1 b.lo = p1 at HT1 HH
 generalize subP b.hi oneP = lp at HT2 HS HH
 generalize rturnP s 1 lp = p2 at HT2 HH
 have HA1 := Lib.hid (show ∀ W : World, Calls Tryz.prog 36 #[.agg #[.int .i64 p1.x, .int .i64 p1.y, .int .i64 p1.z], .agg #[.int .i64 1, .int .i64 1, .int .i64 1]] W fun e w' => e = .returned (.agg #[.int .i64 (addP p1 oneP).x, .int .i64 (addP p1 oneP).y, .int .i64 (addP p1 oneP).z]) ∧ Ext W w' from rAdd_any p1 oneP)
 have HA2 := Lib.hid (show ∀ W : World, Calls Tryz.prog 36 #[.agg #[.int .i64 p2.x, .int .i64 p2.y, .int .i64 p2.z], .agg #[.int .i64 1, .int .i64 1, .int .i64 1]] W fun e w' => e = .returned (.agg #[.int .i64 (addP p2 oneP).x, .int .i64 (addP p2 oneP).y, .int .i64 (addP p2 oneP).z]) ∧ Ext W w' from rAdd_any p2 oneP)
 generalize addP p1 oneP = q1 at HA1 HH
 generalize addP p2 oneP = q2 at HA2 HH
 replace HH := Lib.hid HH
 clear h1 h2 h3 hs he hb
 go_enter Tryz.func38, Tryz.ntmps38
 go_upto_region 1 with fail
 rw [← hW]
 clear hW
 go_upto_region 2 with (first
  | (go_at_call 81; refine (HI.out _).mono ?_; rintro e W1 ⟨rfl, hx⟩; replace HX := xEx HX hx; replace H3 := aEx H3 hx; replace H4 := aEx H4 hx; clear hx))
 go_upto_region 4 with fail
 go_upto_region 5 with (first
  | (refine ldB 27 3 H3.out Tryz.underlying27 ?_) | (refine ldB 27 3 (H3.out.alloc _) Tryz.underlying27 ?_) | (refine ldB 27 3 ((H3.out.alloc _).alloc _) Tryz.underlying27 ?_)
  | (go_at_call 52; refine (HE.out _).mono ?_; rintro e W2 ⟨rfl, hx⟩; replace HX := xEx HX hx; replace H3 := aEx H3 hx; replace H4 := aEx H4 hx; clear hx))
 go_upto_region 7 with fail
 go_upto_region 8 with (first
  | (refine wpList_store_blk2 25 (.tmp 7) (.tmp 19) rfl rfl (Arr.new W2 25 [.int .i64 0, .int .i64 0, .int .i64 0]) [.int .i64 1, .int .i64 1, .int .i64 1] rfl rfl (by kernel_rfl) rfl rfl rfl ?_; intro W3 hW; have Q3_7 := aLt H3; have Q4_7 := aLt H4; have Qw_7 := Lib.hid HX.out.size; replace HX := xNew HX hW; replace H3 := aNew H3 hW; replace H4 := aNew H4 hW; have H7 := nNew hW; clear hW))
 obtain ⟨b7, hb7⟩ : ∃ n, n = W2.heap.size := ⟨_, rfl⟩
 rw [← hb7] at H7 Q3_7 Q4_7 Qw_7 ⊢
 clear hb7
 go_upto_region 9 with (first
  | (refine wpList_load_part 25 (.tmp 21) rfl rfl H3.out 0 [.int .i64 b.lo.x, .int .i64 b.lo.y, .int .i64 b.lo.z] rfl rfl _ Tryz.underlying25 rfl (by kernel_rfl) ?_) | (refine wpList_load_part 25 (.tmp 21) rfl rfl (H3.out.alloc _) 0 [.int .i64 b.lo.x, .int .i64 b.lo.y, .int .i64 b.lo.z] rfl rfl _ Tryz.underlying25 rfl (by kernel_rfl) ?_)
  | (go_at_call 39; refine (HT1.out _).mono ?_; rintro e W4 ⟨rfl, hx⟩; replace HX := xEx HX hx; replace H3 := aEx H3 hx; replace H4 := aEx H4 hx; replace H7 := aEx H7 hx; clear hx)
  | (refine wpList_store_blk2 25 (.tmp 8) (.tmp 23) rfl rfl (Arr.new W4 25 [.int .i64 0, .int .i64 0, .int .i64 0]) [.int .i64 p1.x, .int .i64 p1.y, .int .i64 p1.z] rfl rfl (by kernel_rfl) rfl rfl rfl ?_; intro W5 hW; have Q3_8 := aLt H3; have Q4_8 := aLt H4; have Q7_8 := aLt H7; have Qw_8 := Lib.hid HX.out.size; replace HX := xNew HX hW; replace H3 := aNew H3 hW; replace H4 := aNew H4 hW; replace H7 := aNew H7 hW; have H8 := nNew hW; clear hW))
 obtain ⟨b8, hb8⟩ : ∃ n, n = W4.heap.size := ⟨_, rfl⟩
 rw [← hb8] at H8 Q3_8 Q4_8 Q7_8 Qw_8 ⊢
 clear hb8
 go_upto_region 10 with (first
  | (refine wpList_load_part 25 (.tmp 25) rfl rfl H3.out 3 [.int .i64 b.hi.x, .int .i64 b.hi.y, .int .i64 b.hi.z] rfl rfl _ Tryz.underlying25 rfl (by kernel_rfl) ?_) | (refine wpList_load_part 25 (.tmp 25) rfl rfl (H3.out.alloc _) 3 [.int .i64 b.hi.x, .int .i64 b.hi.y, .int .i64 b.hi.z] rfl rfl _ Tryz.underlying25 rfl (by kernel_rfl) ?_)
  | (refine ldB 25 7 H7.out Tryz.underlying25 ?_) | (refine ldB 25 7 (H7.out.alloc _) Tryz.underlying25 ?_) | (refine ldB 25 7 ((H7.out.alloc _).alloc _) Tryz.underlying25 ?_)
  | (go_at_call 37; refine (HS.out _).mono ?_; rintro e W6 ⟨rfl, hx⟩; replace HX := xEx HX hx; replace H3 := aEx H3 hx; replace H4 := aEx H4 hx; replace H7 := aEx H7 hx; replace H8 := aEx H8 hx; clear hx)
  | (go_at_call 39; refine (HT2.out _).mono ?_; rintro e W7 ⟨rfl, hx⟩; replace HX := xEx HX hx; replace H3 := aEx H3 hx; replace H4 := aEx H4 hx; replace H7 := aEx H7 hx; replace H8 := aEx H8 hx; clear hx)
  | (refine wpList_store_blk2 25 (.tmp 9) (.tmp 29) rfl rfl (Arr.new W7 25 [.int .i64 0, .int .i64 0, .int .i64 0]) [.int .i64 p2.x, .int .i64 p2.y, .int .i64 p2.z] rfl rfl (by kernel_rfl) rfl rfl rfl ?_; intro W8 hW; have Q3_9 := aLt H3; have Q4_9 := aLt H4; have Q7_9 := aLt H7; have Q8_9 := aLt H8; have Qw_9 := Lib.hid HX.out.size; replace HX := xNew HX hW; replace H3 := aNew H3 hW; replace H4 := aNew H4 hW; replace H7 := aNew H7 hW; replace H8 := aNew H8 hW; have H9 := nNew hW; clear hW))
 obtain ⟨b9, hb9⟩ : ∃ n, n = W7.heap.size := ⟨_, rfl⟩
 rw [← hb9] at H9 Q3_9 Q4_9 Q7_9 Q8_9 Qw_9 ⊢
 clear hb9
 have HN0 := Lib.hid (fun W : World => HA1.out W)
 have HN1 := Lib.hid (fun W : World => HA2.out W)
 have HN2 := Lib.hid (fun W : World => HH.out W)
 have c7 := H7.out.cell; have l7 := H7.out.lt
 have c8 := H8.out.cell; have l8 := H8.out.lt
 have c9 := H9.out.cell; have l9 := H9.out.lt
 (try simp only [Act.put, List.setIfInBounds_toArray, List.set_cons_zero, List.set_cons_succ])
 refine wp_region_near_tail 11 (by assumption) (by kernel_rfl) ?_
 simp only [List.take_succ_cons, List.take_zero, List.drop_succ_cons, List.drop_zero]
 repeat (go_big_quiet_step ((first | (go_at_call 36; with_reducible exact near_call (HN0.out _)) | (go_at_call 36; with_reducible exact near_call (HN1.out _)) | (go_at_call 82; with_reducible exact near_call (HN2.out _)))))
 refine wpQuiet_nil ?_
 intro w1 hw1
 have hy := Ext.of_near hw1
 clear hw1
 replace HX := xEx HX hy; replace H3 := aEx H3 hy; replace H4 := aEx H4 hy; replace H7 := aEx H7 hy; replace H8 := aEx H8 hy; replace H9 := aEx H9 hy
 clear hy c7 l7 c8 l8 c9 l9
 go_wp2_with (first
  | (refine wpList_store_blk2 27 (.tmp 4) (.tmp 40) rfl rfl H4.out [.int .i64 tb.lo.x, .int .i64 tb.lo.y, .int .i64 tb.lo.z, .int .i64 tb.hi.x, .int .i64 tb.hi.y, .int .i64 tb.hi.z] rfl rfl (by kernel_rfl) rfl rfl rfl ?_; intro W9 hW; replace HX := xRow HX hW (by omega); replace H3 := aRow H3 hW (by omega); replace H7 := aRow H7 hW (by have := Q4_7.out; omega); replace H8 := aRow H8 hW (by have := Q4_8.out; omega); replace H9 := aRow H9 hW (by have := Q4_9.out; omega); replace H4 := nRow H4 hW; clear hW))
 refine bodyPost_ret (v := .agg #[.int .i64 tb.lo.x, .int .i64 tb.lo.y, .int .i64 tb.lo.z, .int .i64 tb.hi.x, .int .i64 tb.hi.y, .int .i64 tb.hi.z]) ?_ rfl ⟨rfl, HX.out⟩
 exact results_cell_row Tryz.results38 _ _ _ _ _ _ _ rfl H4.out Tryz.underlying27 rfl (by kernel_rfl)

end Go.Proofs.YtlinhgannajfpaaGreatDoor

/- Plain laws: what Decode gives of an encoding; what an encoding is of; Check at greater depths and more materials. -/
namespace Go.Proofs.YtlinhgannajfpaaGreatDoor
open Go Go.RowKit

theorem edOf_nums (x : Ed) : edOf (numsE x) = x := rfl
theorem dec_enc {x : Ed} (h : FitE x) : decE (encE x) = if formedE x then (x, 0) else (zeroE, 1) := by
 have h1 := getL_enc h (by show 17 ≤ 1000000; omega) []
 rw [List.append_nil] at h1
 unfold decE encE
 rw [h1]
 simp only [edOf_nums]
 rw [if_neg (by
  rintro (h | h)
  · exact h rfl
  · exact h rfl)]
 rfl
theorem dec_back {b : List UInt8} {x : Ed} (h : decE b = (x, 0)) : encE x = b ∧ formedE x = true ∧ FitE x := by
 unfold decE at h
 split at h
 · rename_i er hg
   injection h with _ h
   unfold eno at h
   split at h <;> omega
 · rename_i l k hg
   split at h
   · injection h with _ h; omega
   · rename_i hk
     split at h
     · rename_i hf
       injection h with h _
       subst h
       obtain ⟨h1, h2, h3⟩ := getL_back hg
       have hk1 : k = b.length := Decidable.byContradiction fun hh => hk (.inl hh)
       have hk2 : l.length = 17 := Decidable.byContradiction fun hh => hk (.inr hh)
       subst hk1
       rw [List.take_length] at h2
       unfold encE FitE
       rw [numsE_edOf hk2]
       exact ⟨h2.symm, hf, h3⟩
     · injection h with _ h; omega
theorem enc_beq {x y : Ed} (hx : FitE x) (hy : FitE y) : (encE x == encE y) = decide (x = y) := by
 rw [Bool.eq_iff_iff, beq_iff_eq, decide_eq_true_eq]
 exact ⟨fun h => numsE_inj (encL_inj hx hy (by show 17 ≤ 1000000; omega) (by show 17 ≤ 1000000; omega) h), fun h => by rw [h]⟩
theorem cmp_beq (x y : Ed) : decide (cmpV (numsE x) (numsE y) = 0) = decide (x = y) := by
 rw [decide_eq_decide, cmpV_zero (l := numsE x) (m := numsE y) rfl]
 exact ⟨numsE_inj, fun h => by rw [h]⟩
theorem inP_more {p : Pt} {s t : Int} (h : s ≤ t) (hp : inP p (cubeB s) = true) : inP p (cubeB t) = true := by
 unfold inP cubeB at *
 simp only [Bool.and_eq_true, decide_eq_true_eq] at *
 omega
theorem bad_more {x : Ed} {s t m n : Int} (h : s ≤ t) (hm : m ≤ n) (hb : badE x s m = false) : badE x t n = false := by
 rw [badE_def] at *
 simp only [Bool.or_eq_false_iff, Bool.and_eq_false_iff, Bool.not_eq_false', decide_eq_true_eq] at *
 refine ⟨hb.1.imp id fun h1 => ⟨h1.1, inP_more h h1.2.1, inP_more h h1.2.2⟩, hb.2.1.imp id (inP_more h), hb.2.2.1, ?_, hb.2.2.2.2⟩
 have := hb.2.2.2.1
 omega
theorem pow_more {a b : Nat} (h : a ≤ b) : (2 : Int) ^ a ≤ 2 ^ b := by
 have h1 := Nat.pow_le_pow_right (n := 2) (by decide) h
 have e : ∀ k : Nat, (2 : Int) ^ k = ((2 ^ k : Nat) : Int) := fun k => by simp
 rw [e, e]
 omega
theorem chk_more {x : Ed} {d m d2 m2 : Int} (h : checkE x d m = 0) (hd : d ≤ d2) (hd2 : d2 ≤ 14) (hm : m ≤ m2) (hm2 : m2 ≤ 256) : checkE x d2 m2 = 0 := by
 unfold checkE at *
 split at h
 · rename_i h1
   rw [decide_eq_true_eq] at h1
   split at h
   · rename_i h2
     simp only [Bool.and_eq_true, decide_eq_true_eq] at h2
     split at h
     · cases h
     · rename_i h3
       rw [Bool.not_eq_true] at h3
       rw [if_pos (by rw [decide_eq_true_eq]; omega), if_pos (by simp only [Bool.and_eq_true, decide_eq_true_eq]; exact ⟨by omega, h2.2⟩), if_neg]
       rw [Bool.not_eq_true]
       exact bad_more (pow_more (by omega)) hm h3
   · cases h
 · cases h
theorem chk_formed {x : Ed} {d m : Int} (h : checkE x d m = 0) : formedE x = true := by
 unfold checkE at h
 split at h
 · split at h
   · rename_i h2
     exact (Bool.and_eq_true_iff.1 h2).2
   · cases h
 · cases h
end Go.Proofs.YtlinhgannajfpaaGreatDoor
