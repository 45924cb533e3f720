/- Contracts of the quota layer, on: Valid and the reference's Valid. -/
import Derived.Test.YthjmglbjlfgmaaaQb
namespace Go.Proofs.Ythjmglbjlfgmaaa
open Go Go.RowKit

def okU (u : Use) : Bool := inB u.tick 0 4000 && inB u.site 1 8 && inB u.count 1 1073741824
def useAt (l : List Use) (i : Nat) : Use := l.getD i ⟨0, 0, 0⟩
def goodB (l : List Use) (i : Nat) : Bool := decide (i < 10000) && okU (useAt l i) && (i == 0 || decide (ordU (useAt l (i - 1)) (useAt l i) < 0))
def vldB (l : List Use) : Bool := (List.range l.length).all (goodB l)
theorem vldB_no {l : List Use} {j : Nat} (hj : j < l.length) (h : goodB l j = false) : vldB l = false := by
  unfold vldB
  rw [List.all_eq_false]
  exact ⟨j, List.mem_range.2 hj, by simp [h]⟩
theorem vldB_yes {l : List Use} (h : ∀ i, i < l.length → goodB l i = true) : vldB l = true := by
  unfold vldB
  rw [List.all_eq_true]
  exact fun i hi => h i (List.mem_range.1 hi)
theorem or5 (a b c d e : Bool) : a = true ∨ (a = false ∧ b = false) ∨ (a = false ∧ b = true ∧ c = false) ∨ (a = false ∧ b = true ∧ c = true ∧ d = false) ∨ (a = false ∧ b = true ∧ c = true ∧ d = true ∧ e = false) ∨ (a = false ∧ b = true ∧ c = true ∧ d = true ∧ e = true) := by
  cases a <;> cases b <;> cases c <;> cases d <;> cases e <;> simp
theorem goodB_lt {l : List Use} {j : Nat} (h : ((10000 : Int) ≤ (j : Int))) : goodB l j = false := by unfold goodB; simp; omega
theorem goodB_ok {l : List Use} {j : Nat} {x : Use} (hx : l[j]? = some x) (h : okU x = false) : goodB l j = false := by unfold goodB useAt; simp [hx, h]
theorem goodB_ord {l : List Use} {m : Nat} {x y : Use} (hx : l[m]? = some x) (hy : l[m + 1]? = some y) (h : 0 ≤ ordU x y) : goodB l (m + 1) = false := by
  unfold goodB useAt; simp [hx, hy]; omega
theorem goodB_zero {l : List Use} {x : Use} (hx : l[0]? = some x) (h : okU x = true) : goodB l 0 = true := by unfold goodB useAt; simp [hx, h]
theorem goodB_succ {l : List Use} {m : Nat} {x y : Use} (hm : (m : Int) + 1 < 10000) (hx : l[m]? = some x) (hy : l[m + 1]? = some y) (h : okU y = true) (ho : ordU x y < 0) : goodB l (m + 1) = true := by
  unfold goodB useAt; simp [hx, hy, h, ho]; omega
theorem good_more {l : List Use} {j : Nat} (h : ∀ i, i < j → goodB l i = true) (hj : goodB l j = true) : ∀ i, i < j + 1 → goodB l i = true := fun i hi => by
  rcases Nat.lt_succ_iff_lt_or_eq.1 hi with h1 | rfl
  · exact h i h1
  · exact hj

set_option maxRecDepth 100000 in
set_option maxHeartbeats 1000000 in
theorem Valid_any (cap : Nat) (A : Option Addr) (w : World) (l : List Use) (hs : Sl w w.heap.size 3 A cap (l.map Use.row)) :
    Calls Try.prog 15 #[.slice A l.length cap] w fun e w' => e = .returned (.bool (vldB l)) ∧ Ext w w' := by
  have hm := mixed
  have hG := near_old
  have hln : l.length ≤ maxLen := by have h1 := hs.le; have h2 := hs.max; simp at h1; omega
  unfold maxLen at hln
  go_enter Try.func15, Try.ntmps15
  have HS := Lib.hid hs; clear hs
  go_wp2
  go_loopw [7] (fun i wr => ∃ j : Nat, j ≤ l.length ∧ i = .int .i64 j ∧ (∀ i, i < j → goodB l i = true) ∧ Ext w wr) (fun i _ => l.length - (intOf i).toNat)
  case atStart => exact ⟨0, Nat.zero_le _, rfl, fun i hi => by omega, Ext.refl _⟩
  case round =>
    obtain ⟨j, hj, rfl, hg, hx⟩ := hrel
    have hz := hx.size
    have HG := Lib.hid hg; clear hg
    by_cases hlt : j < l.length
    · obtain ⟨x, hxj⟩ : ∃ x, l[j]? = some x := ⟨_, List.getElem?_eq_getElem hlt⟩
      obtain ⟨b', off, rfl, hbl, h0, h1, h2⟩ := (HS.out.ext hx (Nat.le_refl _)).at3 (i := j) (by rw [List.getElem?_map, hxj]; rfl)
      have hbw : b' < wr.heap.size + 1 := by omega
      have hbq : b' < wr.heap.size := by omega
      rcases or5 (decide ((10000 : Int) ≤ (j : Int))) (inB x.tick 0 4000) (inB x.site 1 8) (inB x.count 1 1073741824) (decide ((0 : Int) < (j : Int))) with c0 | ⟨c0, c1⟩ | ⟨c0, c1, c2⟩ | ⟨c0, c1, c2, c3⟩ | ⟨c0, c1, c2, c3, c4⟩ | ⟨c0, c1, c2, c3, c4⟩
      · have HN := Lib.hid (goodB_lt (l := l) (of_decide_eq_true c0))
        clear hxj
        go_wp2
        refine wp_region_near (by assumption) (by kernel_rfl) ?_
        repeat (go_big_quiet_step ((go_at_call 24; exact near_same (within_any _ _ _ _))))
        refine wpQuiet_nil ?_
        intro w1 hw1
        have hy := Ext.of_near hw1
        clear hw1
        go_wp2
        go_ret
        exact ⟨ret_bool (by rw [vldB_no hlt HN.out]), (hx.alloc _).trans hy⟩
      · have HN := Lib.hid (goodB_ok hxj (by unfold okU; simp [c1]))
        clear hxj
        go_wp2
        refine wp_region_near (by assumption) (by kernel_rfl) ?_
        repeat (go_big_quiet_step ((go_at_call 24; exact near_same (within_any _ _ _ _))))
        refine wpQuiet_nil ?_
        intro w1 hw1
        have hy := Ext.of_near hw1
        clear hw1
        go_wp2
        go_ret
        exact ⟨ret_bool (by rw [vldB_no hlt HN.out]), (hx.alloc _).trans hy⟩
      · have HN := Lib.hid (goodB_ok hxj (by unfold okU; simp [c1, c2]))
        clear hxj
        go_wp2
        refine wp_region_near (by assumption) (by kernel_rfl) ?_
        repeat (go_big_quiet_step ((go_at_call 24; exact near_same (within_any _ _ _ _))))
        refine wpQuiet_nil ?_
        intro w1 hw1
        have hy := Ext.of_near hw1
        clear hw1
        go_wp2
        go_ret
        exact ⟨ret_bool (by rw [vldB_no hlt HN.out]), (hx.alloc _).trans hy⟩
      · have HN := Lib.hid (goodB_ok hxj (by unfold okU; simp [c1, c2, c3]))
        clear hxj
        go_wp2
        refine wp_region_near (by assumption) (by kernel_rfl) ?_
        repeat (go_big_quiet_step ((go_at_call 24; exact near_same (within_any _ _ _ _))))
        refine wpQuiet_nil ?_
        intro w1 hw1
        have hy := Ext.of_near hw1
        clear hw1
        go_wp2
        go_ret
        exact ⟨ret_bool (by rw [vldB_no hlt HN.out]), (hx.alloc _).trans hy⟩
      · obtain rfl : j = 0 := by simp at c4; omega
        have HN := Lib.hid (good_more HG.out (goodB_zero hxj (by unfold okU; simp [c1, c2, c3])))
        clear hxj c0 c4
        simp only [Nat.zero_mul, Nat.add_zero] at h0 h1 h2
        have c0 : decide ((10000 : Int) ≤ 0) = false := by decide
        have c4 : decide ((0 : Int) < 0) = false := by decide
        go_wp2
        refine wp_region_near (by assumption) (by kernel_rfl) ?_
        repeat (go_big_quiet_step ((go_at_call 24; exact near_same (within_any _ _ _ _))))
        refine wpQuiet_nil ?_
        intro w1 hw1
        have hy := Ext.of_near hw1
        clear hw1
        go_wp2
        go_roundw
        case rel => exact ⟨1, by omega, by go_num, HN.out, (hx.alloc _).trans hy⟩
        case measure => simp [intOf]; omega
      · obtain ⟨m, rfl⟩ : ∃ m, j = m + 1 := ⟨j - 1, by simp at c4; omega⟩
        obtain ⟨y, hyj⟩ : ∃ y, l[m]? = some y := ⟨_, List.getElem?_eq_getElem (by omega)⟩
        obtain ⟨b2, off2, he, _, g0, g1, g2⟩ := (HS.out.ext hx (Nat.le_refl _)).at3 (i := m) (by rw [List.getElem?_map, hyj]; rfl)
        cases he
        have c6 : (m : Int) + 1 < 10000 := by simpa using c0
        have hok : okU x = true := by unfold okU; simp [c1, c2, c3]
        have HN := Lib.hid (fun ho => good_more HG.out (goodB_succ c6 hyj hxj hok ho))
        have HB := Lib.hid (fun ho : 0 ≤ ordU y x => goodB_ord hyj hxj ho)
        clear hxj hyj hok c0 c4
        have c0 : decide ((10000 : Int) ≤ (m : Int) + 1) = false := by simp; omega
        have c4 : decide ((0 : Int) < (m : Int) + 1) = true := decide_eq_true (by omega)
        go_wp2
        refine wp_region_near (by assumption) (by kernel_rfl) ?_
        repeat (go_big_quiet_step ((first | (go_at_call 24; exact near_same (within_any _ _ _ _)) | (go_at_call 26; exact near_call (order_any y x _)))))
        refine wpQuiet_nil ?_
        intro w1 hw1
        have hy := Ext.of_near hw1
        clear hw1
        go_wp2
        · go_ret
          exact ⟨ret_bool (by rw [vldB_no hlt (HB.out (by assumption))]), (hx.alloc _).trans hy⟩
        · go_roundw
          case rel => exact ⟨m + 1 + 1, by omega, by go_num, HN.out (by assumption), (hx.alloc _).trans hy⟩
          case measure => simp [intOf]; omega
    · obtain rfl : j = l.length := by omega
      go_wp2
      go_ret
      exact ⟨ret_bool (by rw [vldB_yes HG.out]), hx⟩
end Go.Proofs.Ythjmglbjlfgmaaa
