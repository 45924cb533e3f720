/- The example that every law of the layer plays: true. -/
import Derived.Test.YthjmglbjlfgmaaaQt
namespace Go.Proofs.Ythjmglbjlfgmaaa
open Go Go.RowKit

def u1 : Use := ⟨5, 1, 4⟩
def u2 : Use := ⟨6, 1, 6⟩
def u3 : Use := ⟨7, 2, 10⟩
def u4 : Use := ⟨8, 1, 4⟩
theorem san1 : takeF 3 10 1 5 4 [] = ([u1], 0) := by kernel_rfl
theorem san2 : takeF 3 10 1 6 6 [u1] = ([u1, u2], 0) := by kernel_rfl
theorem san3 : takeF 3 10 1 7 1 [u1, u2] = ([], 12) := by kernel_rfl
theorem san4 : takeF 3 10 2 7 10 [u1, u2] = ([u1, u2, u3], 0) := by kernel_rfl
theorem san5 : takeF 3 10 1 8 4 [u1, u2] = ([u2, u4], 0) := by kernel_rfl
theorem san6 : takeF 3 10 1 5 0 [u1, u2] = ([], 22) := by kernel_rfl
theorem san7 : pruned 3 10 8 [u1, u2] = [u2] := by kernel_rfl
theorem san8 : leftF 3 10 1 8 [u1, u2] = 4 := by kernel_rfl
theorem san9 : used 3 1 7 [u1, u2] = 10 := by kernel_rfl
theorem san10 : vldB [u1, u2] = true := by kernel_rfl
theorem san11 : vldB [⟨0, 0, 0⟩] = false := by kernel_rfl
theorem fits2 : Fits [u1, u2] := vld_fits san10
theorem quo310 : Quo 3 10 := .inr (by omega)
theorem same_self (a : List Use) : sameB a a = true := (sameB_iff a a).2 rfl
theorem same_at (l : List Use) (c1 c2 : Nat) (A B : Option Addr) (w : World) (ha : Sl w w.heap.size 3 A c1 (l.map Use.row)) (hb : Sl w w.heap.size 3 B c2 (l.map Use.row)) :
    Calls Try.prog 12 #[.slice A l.length c1, .slice B l.length c2] w fun e w' => e = .returned (.bool true) ∧ Ext w w' := by
  have h := Same_any c1 c2 A B w l l ha hb
  rw [same_self] at h
  exact h
/-- An owned row handed back, read. -/
def RetSl (l : List Use) (w : World) (en : Ending) (w' : World) : Prop := ∃ A cap, en = .returned (.slice A l.length cap) ∧ Sl w' w'.heap.size 3 A cap (l.map Use.row) ∧ Ext w w'
theorem RetUses.read {l : List Use} {w : World} {en : Ending} {w' : World} (h : RetUses l w en w') : RetSl l w en w' := by
  obtain ⟨v, rfl, ho, hx⟩ := h
  simp only [List.length_map] at ho
  obtain ⟨A, c, rfl, _, _⟩ := own_form ho
  exact ⟨A, c, rfl, Sl.of_own ho (rws_map l) (by simp), hx⟩
theorem prune_at {t c k : Int} {l r : List Use} (h : pruned t c k l = r) (cap : Nat) (A : Option Addr) (w : World) (hs : Sl w w.heap.size 3 A cap (l.map Use.row)) (hb : l.length ≤ 1000000 := by decide) (ht0 : 0 ≤ t := by decide) (ht1 : t ≤ 4000 := by decide) (hk0 : 0 ≤ k := by decide) (hk1 : k ≤ 4000 := by decide) :
    Calls Try.prog 16 #[.slice A l.length cap, .agg #[.int .i64 t, .int .i64 c], .int .i64 k] w (RetSl r w) := by
  subst h
  exact (Prune_uses t c k A cap l w hs hb ht0 ht1 hk0 hk1).mono fun _ _ h => h.read
theorem left_at (A : Option Addr) (cap : Nat) (w : World) (hs : Sl w w.heap.size 3 A cap ([u1, u2].map Use.row)) :
    Calls Try.prog 20 #[.slice A [u1, u2].length cap, .agg #[.int .i64 3, .int .i64 10], .int .i64 1, .int .i64 8] w fun e w' => e = .returned (.int .i64 4) ∧ Ext w w' := by
  have h := Left_any 3 10 1 8 cap A w [u1, u2] hs fits2 quo310 (by decide) (by decide)
  rw [san8] at h
  exact h
theorem used_at (A : Option Addr) (cap : Nat) (w : World) (hs : Sl w w.heap.size 3 A cap ([u1, u2].map Use.row)) :
    Calls Try.prog 18 #[.slice A [u1, u2].length cap, .agg #[.int .i64 3, .int .i64 10], .int .i64 1, .int .i64 7] w fun e w' => e = .returned (.int .i64 10) ∧ Ext w w' := by
  have h := Used_any 3 10 1 7 cap A w [u1, u2] hs fits2 (by decide) (by decide) (by decide) (by decide)
  rw [san9] at h
  exact h
theorem valid_at (A : Option Addr) (cap : Nat) (w : World) (hs : Sl w w.heap.size 3 A cap ([u1, u2].map Use.row)) :
    Calls Try.prog 15 #[.slice A [u1, u2].length cap] w fun e w' => e = .returned (.bool true) ∧ Ext w w' := by
  have h := Valid_any cap A w [u1, u2] hs
  rw [san10] at h
  exact h
theorem valid_no (w : World) :
    Calls Try.prog 15 #[.slice (some ⟨w.heap.size, 0, none⟩) 1 1] (w.alloc (.cells #[.int .i64 0, .int .i64 0, .int .i64 0] 40)) fun e w' => e = .returned (.bool false) ∧ Ext (w.alloc (.cells #[.int .i64 0, .int .i64 0, .int .i64 0] 40)) w' := by
  have h := Valid_any 1 (some ⟨w.heap.size, 0, none⟩) _ [⟨0, 0, 0⟩] (Sl.lit w [⟨0, 0, 0⟩] (by decide) #[.int .i64 0, .int .i64 0, .int .i64 0] rfl)
  rw [san11] at h
  exact h

set_option maxRecDepth 100000 in
set_option maxHeartbeats 4000000 in
theorem sanity_any (w : World) : Calls Try.prog 8 #[] w fun e w' => e = .returned (.bool true) ∧ Ext w w' := by
  go_enter Try.func8, Try.ntmps8
  go_wp2_with fail
  have h0 := (Ext.refl (w.alloc (.cells #[.int .i64 3, .int .i64 10] 24)))
  refine (take_at (l := []) san1 0 none _ (Sl.nil _ _ _)).mono ?_
  rintro e w1 ⟨Aa, ca, rfl, sa, x1⟩
  have h1 := (h0).trans x1
  have g0 := h1.box 0
  have g1 := h1.box 1
  simp only [List.getElem?_toArray, List.getElem?_cons_zero, List.getElem?_cons_succ] at g0 g1
  go_wp2_with fail
  refine (take_at (l := [u1]) san2 ca Aa _ sa).mono ?_
  rintro e w2 ⟨Ab, cb, rfl, sb, x2⟩
  replace sa := sa.to x2
  have h2 := (h1).trans x2
  clear g0 g1
  have g0 := h2.box 0
  have g1 := h2.box 1
  simp only [List.getElem?_toArray, List.getElem?_cons_zero, List.getElem?_cons_succ] at g0 g1
  go_wp2_with fail
  refine (take_at (l := [u1, u2]) san3 cb Ab _ sb).mono ?_
  rintro e w3 ⟨Az, cz, rfl, sz, x3⟩
  replace sa := sa.to x3
  replace sb := sb.to x3
  have h3 := (h2).trans x3
  clear g0 g1
  have g0 := h3.box 0
  have g1 := h3.box 1
  simp only [List.getElem?_toArray, List.getElem?_cons_zero, List.getElem?_cons_succ] at g0 g1
  go_wp2_with fail
  refine (take_at (l := [u1, u2]) san4 cb Ab _ sb).mono ?_
  rintro e w4 ⟨Ac, cc, rfl, sc, x4⟩
  replace sa := sa.to x4
  replace sb := sb.to x4
  have h4 := (h3).trans x4
  clear g0 g1
  have g0 := h4.box 0
  have g1 := h4.box 1
  simp only [List.getElem?_toArray, List.getElem?_cons_zero, List.getElem?_cons_succ] at g0 g1
  go_wp2_with fail
  refine (take_at (l := [u1, u2]) san5 cb Ab _ sb).mono ?_
  rintro e w5 ⟨Ad, cd, rfl, sd, x5⟩
  replace sa := sa.to x5
  replace sb := sb.to x5
  replace sc := sc.to x5
  have h5 := (h4).trans x5
  clear g0 g1
  have g0 := h5.box 0
  have g1 := h5.box 1
  simp only [List.getElem?_toArray, List.getElem?_cons_zero, List.getElem?_cons_succ] at g0 g1
  go_wp2_with fail
  refine (take_at (l := [u1, u2]) san6 cb Ab _ sb).mono ?_
  rintro e w6 ⟨Ay, cy, rfl, sy, x6⟩
  replace sa := sa.to x6
  replace sb := sb.to x6
  replace sc := sc.to x6
  replace sd := sd.to x6
  have h6 := (h5).trans x6
  clear g0 g1
  have g0 := h6.box 0
  have g1 := h6.box 1
  simp only [List.getElem?_toArray, List.getElem?_cons_zero, List.getElem?_cons_succ] at g0 g1
  go_wp2_with fail
  refine (use_any _ _ _ _).mono ?_
  rintro e w7 ⟨rfl, x7⟩
  replace sa := sa.to x7
  replace sb := sb.to x7
  replace sc := sc.to x7
  replace sd := sd.to x7
  have h7 := (h6).trans x7
  clear g0 g1
  have g0 := h7.box 0
  have g1 := h7.box 1
  simp only [List.getElem?_toArray, List.getElem?_cons_zero, List.getElem?_cons_succ] at g0 g1
  go_wp2_with fail
  refine (same_at [u1] ca 1 Aa (some ⟨w7.heap.size, 0, none⟩) _ (sa.to ((Ext.refl _).alloc _)) (Sl.lit w7 [u1] (by decide) _ rfl)).mono ?_
  rintro e w8 ⟨rfl, x8⟩
  replace sa := (sa.to ((Ext.refl _).alloc _)).to x8
  replace sb := (sb.to ((Ext.refl _).alloc _)).to x8
  replace sc := (sc.to ((Ext.refl _).alloc _)).to x8
  replace sd := (sd.to ((Ext.refl _).alloc _)).to x8
  have h8 := (h7.alloc _).trans x8
  clear g0 g1
  have g0 := h8.box 0
  have g1 := h8.box 1
  simp only [List.getElem?_toArray, List.getElem?_cons_zero, List.getElem?_cons_succ] at g0 g1
  go_wp2_with fail
  refine (use_any _ _ _ _).mono ?_
  rintro e w9 ⟨rfl, x9⟩
  replace sa := sa.to x9
  replace sb := sb.to x9
  replace sc := sc.to x9
  replace sd := sd.to x9
  have h9 := (h8).trans x9
  clear g0 g1
  have g0 := h9.box 0
  have g1 := h9.box 1
  simp only [List.getElem?_toArray, List.getElem?_cons_zero, List.getElem?_cons_succ] at g0 g1
  go_wp2_with fail
  refine (use_any _ _ _ _).mono ?_
  rintro e w10 ⟨rfl, x10⟩
  replace sa := sa.to x10
  replace sb := sb.to x10
  replace sc := sc.to x10
  replace sd := sd.to x10
  have h10 := (h9).trans x10
  clear g0 g1
  have g0 := h10.box 0
  have g1 := h10.box 1
  simp only [List.getElem?_toArray, List.getElem?_cons_zero, List.getElem?_cons_succ] at g0 g1
  go_wp2_with fail
  refine (same_at [u1, u2] cb 2 Ab (some ⟨w10.heap.size, 0, none⟩) _ (sb.to ((Ext.refl _).alloc _)) (Sl.lit w10 [u1, u2] (by decide) _ rfl)).mono ?_
  rintro e w11 ⟨rfl, x11⟩
  replace sa := (sa.to ((Ext.refl _).alloc _)).to x11
  replace sb := (sb.to ((Ext.refl _).alloc _)).to x11
  replace sc := (sc.to ((Ext.refl _).alloc _)).to x11
  replace sd := (sd.to ((Ext.refl _).alloc _)).to x11
  have h11 := (h10.alloc _).trans x11
  clear g0 g1
  have g0 := h11.box 0
  have g1 := h11.box 1
  simp only [List.getElem?_toArray, List.getElem?_cons_zero, List.getElem?_cons_succ] at g0 g1
  go_wp2_with fail
  refine (use_any _ _ _ _).mono ?_
  rintro e w12 ⟨rfl, x12⟩
  replace sa := sa.to x12
  replace sb := sb.to x12
  replace sc := sc.to x12
  replace sd := sd.to x12
  have h12 := (h11).trans x12
  clear g0 g1
  have g0 := h12.box 0
  have g1 := h12.box 1
  simp only [List.getElem?_toArray, List.getElem?_cons_zero, List.getElem?_cons_succ] at g0 g1
  go_wp2_with fail
  refine (use_any _ _ _ _).mono ?_
  rintro e w13 ⟨rfl, x13⟩
  replace sa := sa.to x13
  replace sb := sb.to x13
  replace sc := sc.to x13
  replace sd := sd.to x13
  have h13 := (h12).trans x13
  clear g0 g1
  have g0 := h13.box 0
  have g1 := h13.box 1
  simp only [List.getElem?_toArray, List.getElem?_cons_zero, List.getElem?_cons_succ] at g0 g1
  go_wp2_with fail
  refine (use_any _ _ _ _).mono ?_
  rintro e w14 ⟨rfl, x14⟩
  replace sa := sa.to x14
  replace sb := sb.to x14
  replace sc := sc.to x14
  replace sd := sd.to x14
  have h14 := (h13).trans x14
  clear g0 g1
  have g0 := h14.box 0
  have g1 := h14.box 1
  simp only [List.getElem?_toArray, List.getElem?_cons_zero, List.getElem?_cons_succ] at g0 g1
  go_wp2_with fail
  refine (same_at [u1, u2, u3] cc 3 Ac (some ⟨w14.heap.size, 0, none⟩) _ (sc.to ((Ext.refl _).alloc _)) (Sl.lit w14 [u1, u2, u3] (by decide) _ rfl)).mono ?_
  rintro e w15 ⟨rfl, x15⟩
  replace sa := (sa.to ((Ext.refl _).alloc _)).to x15
  replace sb := (sb.to ((Ext.refl _).alloc _)).to x15
  replace sc := (sc.to ((Ext.refl _).alloc _)).to x15
  replace sd := (sd.to ((Ext.refl _).alloc _)).to x15
  have h15 := (h14.alloc _).trans x15
  clear g0 g1
  have g0 := h15.box 0
  have g1 := h15.box 1
  simp only [List.getElem?_toArray, List.getElem?_cons_zero, List.getElem?_cons_succ] at g0 g1
  go_wp2_with fail
  refine (use_any _ _ _ _).mono ?_
  rintro e w16 ⟨rfl, x16⟩
  replace sa := sa.to x16
  replace sb := sb.to x16
  replace sc := sc.to x16
  replace sd := sd.to x16
  have h16 := (h15).trans x16
  clear g0 g1
  have g0 := h16.box 0
  have g1 := h16.box 1
  simp only [List.getElem?_toArray, List.getElem?_cons_zero, List.getElem?_cons_succ] at g0 g1
  go_wp2_with fail
  refine (use_any _ _ _ _).mono ?_
  rintro e w17 ⟨rfl, x17⟩
  replace sa := sa.to x17
  replace sb := sb.to x17
  replace sc := sc.to x17
  replace sd := sd.to x17
  have h17 := (h16).trans x17
  clear g0 g1
  have g0 := h17.box 0
  have g1 := h17.box 1
  simp only [List.getElem?_toArray, List.getElem?_cons_zero, List.getElem?_cons_succ] at g0 g1
  go_wp2_with fail
  refine (same_at [u2, u4] cd 2 Ad (some ⟨w17.heap.size, 0, none⟩) _ (sd.to ((Ext.refl _).alloc _)) (Sl.lit w17 [u2, u4] (by decide) _ rfl)).mono ?_
  rintro e w18 ⟨rfl, x18⟩
  replace sa := (sa.to ((Ext.refl _).alloc _)).to x18
  replace sb := (sb.to ((Ext.refl _).alloc _)).to x18
  replace sc := (sc.to ((Ext.refl _).alloc _)).to x18
  replace sd := (sd.to ((Ext.refl _).alloc _)).to x18
  have h18 := (h17.alloc _).trans x18
  clear g0 g1
  have g0 := h18.box 0
  have g1 := h18.box 1
  simp only [List.getElem?_toArray, List.getElem?_cons_zero, List.getElem?_cons_succ] at g0 g1
  go_wp2_with fail
  refine (prune_at (l := [u1, u2]) san7 cb Ab _ sb).mono ?_
  rintro e w19 ⟨Ap, cp, rfl, sp, x19⟩
  replace sa := sa.to x19
  replace sb := sb.to x19
  replace sc := sc.to x19
  replace sd := sd.to x19
  have h19 := (h18).trans x19
  clear g0 g1
  have g0 := h19.box 0
  have g1 := h19.box 1
  simp only [List.getElem?_toArray, List.getElem?_cons_zero, List.getElem?_cons_succ] at g0 g1
  go_wp2_with fail
  refine (use_any _ _ _ _).mono ?_
  rintro e w20 ⟨rfl, x20⟩
  replace sa := sa.to x20
  replace sb := sb.to x20
  replace sc := sc.to x20
  replace sd := sd.to x20
  replace sp := sp.to x20
  have h20 := (h19).trans x20
  clear g0 g1
  have g0 := h20.box 0
  have g1 := h20.box 1
  simp only [List.getElem?_toArray, List.getElem?_cons_zero, List.getElem?_cons_succ] at g0 g1
  go_wp2_with fail
  refine (same_at [u2] cp 1 Ap (some ⟨w20.heap.size, 0, none⟩) _ (sp.to ((Ext.refl _).alloc _)) (Sl.lit w20 [u2] (by decide) _ rfl)).mono ?_
  rintro e w21 ⟨rfl, x21⟩
  replace sa := (sa.to ((Ext.refl _).alloc _)).to x21
  replace sb := (sb.to ((Ext.refl _).alloc _)).to x21
  replace sc := (sc.to ((Ext.refl _).alloc _)).to x21
  replace sd := (sd.to ((Ext.refl _).alloc _)).to x21
  replace sp := (sp.to ((Ext.refl _).alloc _)).to x21
  have h21 := (h20.alloc _).trans x21
  clear g0 g1
  have g0 := h21.box 0
  have g1 := h21.box 1
  simp only [List.getElem?_toArray, List.getElem?_cons_zero, List.getElem?_cons_succ] at g0 g1
  go_wp2_with fail
  refine (left_at Ab cb _ sb).mono ?_
  rintro e w22 ⟨rfl, x22⟩
  replace sa := sa.to x22
  replace sb := sb.to x22
  replace sc := sc.to x22
  replace sd := sd.to x22
  replace sp := sp.to x22
  have h22 := (h21).trans x22
  clear g0 g1
  have g0 := h22.box 0
  have g1 := h22.box 1
  simp only [List.getElem?_toArray, List.getElem?_cons_zero, List.getElem?_cons_succ] at g0 g1
  go_wp2_with fail
  refine (used_at Ab cb _ sb).mono ?_
  rintro e w23 ⟨rfl, x23⟩
  replace sa := sa.to x23
  replace sb := sb.to x23
  replace sc := sc.to x23
  replace sd := sd.to x23
  replace sp := sp.to x23
  have h23 := (h22).trans x23
  clear g0 g1
  have g0 := h23.box 0
  have g1 := h23.box 1
  simp only [List.getElem?_toArray, List.getElem?_cons_zero, List.getElem?_cons_succ] at g0 g1
  go_wp2_with fail
  refine (Check_any _ _ _).mono ?_
  rintro e w24 ⟨rfl, x24⟩
  replace sa := sa.to x24
  replace sb := sb.to x24
  replace sc := sc.to x24
  replace sd := sd.to x24
  replace sp := sp.to x24
  have h24 := (h23).trans x24
  clear g0 g1
  have g0 := h24.box 0
  have g1 := h24.box 1
  simp only [List.getElem?_toArray, List.getElem?_cons_zero, List.getElem?_cons_succ] at g0 g1
  go_wp2_with fail
  refine (Check_any _ _ _).mono ?_
  rintro e w25 ⟨rfl, x25⟩
  replace sa := sa.to x25
  replace sb := sb.to x25
  replace sc := sc.to x25
  replace sd := sd.to x25
  replace sp := sp.to x25
  have h25 := (h24).trans x25
  clear g0 g1
  have g0 := h25.box 0
  have g1 := h25.box 1
  simp only [List.getElem?_toArray, List.getElem?_cons_zero, List.getElem?_cons_succ] at g0 g1
  go_wp2_with fail
  refine (valid_at Ab cb _ sb).mono ?_
  rintro e w26 ⟨rfl, x26⟩
  replace sa := sa.to x26
  replace sb := sb.to x26
  replace sc := sc.to x26
  replace sd := sd.to x26
  replace sp := sp.to x26
  have h26 := (h25).trans x26
  clear g0 g1
  have g0 := h26.box 0
  have g1 := h26.box 1
  simp only [List.getElem?_toArray, List.getElem?_cons_zero, List.getElem?_cons_succ] at g0 g1
  go_wp2_with fail
  refine (valid_no _).mono ?_
  rintro e w27 ⟨rfl, x27⟩
  have h27 := (h26.alloc _).trans x27
  clear g0 g1
  have g0 := h27.box 0
  have g1 := h27.box 1
  simp only [List.getElem?_toArray, List.getElem?_cons_zero, List.getElem?_cons_succ] at g0 g1
  go_wp2_with fail
  go_ret
  exact ⟨rfl, h27.un⟩
end Go.Proofs.Ythjmglbjlfgmaaa
