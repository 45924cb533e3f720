/- Contract of the quota layer: the reference's Valid. -/
import Derived.Test.YthjmglbjlfgmaaaQc
namespace Go.Proofs.Ythjmglbjlfgmaaa
open Go Go.RowKit

theorem ordU_neg (u v : Use) : ordU u v < 0 ↔ u.tick < v.tick ∨ (u.tick = v.tick ∧ u.site < v.site) := by
  unfold ordU orI cmpI
  repeat' split
  all_goals omega
theorem okU_iff (u : Use) : okU u = true ↔ (0 ≤ u.tick ∧ u.tick ≤ 4000) ∧ (1 ≤ u.site ∧ u.site ≤ 8) ∧ 1 ≤ u.count ∧ u.count ≤ 1073741824 := by
  unfold okU inB; simp [and_assoc]
theorem or3 (a b c : Bool) : a = true ∨ (a = false ∧ b = false) ∨ (a = false ∧ b = true ∧ c = false) ∨ (a = false ∧ b = true ∧ c = true) := by
  cases a <;> cases b <;> cases c <;> simp

set_option maxRecDepth 100000 in
set_option maxHeartbeats 2000000 in
theorem refValid_any (cap : Nat) (A : Option Addr) (w : World) (l : List Use) (hs : Sl w w.heap.size 3 A cap (l.map Use.row)) :
    Calls Try.prog 11 #[.slice A l.length cap] w fun e w' => e = .returned (.bool (vldB l)) ∧ Ext w w' := by
  have hln : l.length ≤ maxLen := by have h1 := hs.le; have h2 := hs.max; simp at h1; omega
  unfold maxLen at hln
  have HS := Lib.hid hs; clear hs
  by_cases hbig : 10000 < l.length
  · have HN := Lib.hid (vldB_no hbig (goodB_lt (by omega)))
    go_enter Try.func11, Try.ntmps11
    go_wp2
    go_ret
    exact ⟨ret_bool (by rw [HN.out]), Ext.refl _⟩
  go_enter Try.func11, Try.ntmps11
  go_wp2
  go_loopw [3] (fun i wr => ∃ j : Nat, j ≤ l.length ∧ i = .int .i64 j ∧ (∀ i, i < j → goodB l i = true) ∧ Ext w wr) (fun i _ => l.length - (intOf i).toNat)
  case atStart => exact ⟨0, Nat.zero_le _, rfl, fun i hi => by omega, Ext.refl _⟩
  case round =>
    obtain ⟨j, hj, rfl, hg, hx⟩ := hrel
    have hz := hx.size
    have HG := Lib.hid hg; clear hg
    by_cases hlt : j < l.length
    · obtain ⟨x, hxj⟩ : ∃ x, l[j]? = some x := ⟨_, List.getElem?_eq_getElem hlt⟩
      obtain ⟨b', off, rfl, hbl, h0, h1, h2⟩ := (HS.out.ext hx (Nat.le_refl _)).at3 (i := j) (by rw [List.getElem?_map, hxj]; rfl)
      have hbq : b' < wr.heap.size := by omega
      by_cases hok : okU x = true
      · obtain ⟨⟨k0, k1⟩, ⟨k2, k3⟩, k4, k5⟩ := (okU_iff x).1 hok
        rcases Nat.eq_zero_or_pos j with rfl | hpos
        · have HN := Lib.hid (good_more HG.out (goodB_zero hxj hok))
          clear hxj hok
          simp only [Nat.zero_mul, Nat.add_zero] at h0 h1 h2
          have c4 : decide ((0 : Int) < 0) = false := by decide
          go_wp2
          go_quiet (fail)
          go_wp2
          go_roundw
          case rel => exact ⟨1, by omega, by go_num, HN.out, (hx.alloc _).drewN _⟩
          case measure => simp [intOf]; omega
        · obtain ⟨m, rfl⟩ : ∃ m, j = m + 1 := ⟨j - 1, by omega⟩
          obtain ⟨y, hyj⟩ : ∃ y, l[m]? = some y := ⟨_, List.getElem?_eq_getElem (by omega)⟩
          obtain ⟨b2, off2, he, _, g0, g1, g2⟩ := (HS.out.ext hx (Nat.le_refl _)).at3 (i := m) (by rw [List.getElem?_map, hyj]; rfl)
          cases he
          have c4 : decide ((0 : Int) < (m : Int) + 1) = true := decide_eq_true (by omega)
          have HN := Lib.hid (fun ho => good_more HG.out (goodB_succ (by omega) hyj hxj hok ho))
          have HB := Lib.hid (fun ho : 0 ≤ ordU y x => goodB_ord hyj hxj ho)
          clear hxj hyj hok
          rcases or3 (decide (x.tick < y.tick)) (y.tick == x.tick) (decide (x.site ≤ y.site)) with d0 | ⟨d0, d1⟩ | ⟨d0, d1, d2⟩ | ⟨d0, d1, d2⟩
          · have ho : 0 ≤ ordU y x := by have := ordU_neg y x; simp at d0; omega
            clear hpos
            go_wp2
            go_quiet (fail)
            go_wp2
            go_ret
            exact ⟨ret_bool (by rw [vldB_no hlt (HB.out ho)]), (hx.alloc _).drewN _⟩
          · have ho : ordU y x < 0 := by have := ordU_neg y x; simp at d0 d1; omega
            clear hpos
            go_wp2
            go_quiet (fail)
            go_wp2
            go_roundw
            case rel => exact ⟨m + 1 + 1, by omega, by go_num, HN.out ho, (hx.alloc _).drewN _⟩
            case measure => simp [intOf]; omega
          · have ho : ordU y x < 0 := by have := ordU_neg y x; simp at d0 d1 d2; omega
            clear hpos
            go_wp2
            go_quiet (fail)
            go_wp2
            go_roundw
            case rel => exact ⟨m + 1 + 1, by omega, by go_num, HN.out ho, (hx.alloc _).drewN _⟩
            case measure => simp [intOf]; omega
          · have ho : 0 ≤ ordU y x := by have := ordU_neg y x; simp at d0 d1 d2; omega
            clear hpos
            go_wp2
            go_quiet (fail)
            go_wp2
            go_ret
            exact ⟨ret_bool (by rw [vldB_no hlt (HB.out ho)]), (hx.alloc _).drewN _⟩
      · have HN := Lib.hid (vldB_no hlt (goodB_ok hxj (by simpa using hok)))
        have hk := mt (okU_iff x).2 hok
        clear hxj hok
        go_wp2
        all_goals (go_ret; exact ⟨ret_bool (by rw [HN.out]), hx.alloc _⟩)
    · obtain rfl : j = l.length := by omega
      go_wp2
      go_ret
      exact ⟨ret_bool (by rw [vldB_yes HG.out]), hx⟩
end Go.Proofs.Ythjmglbjlfgmaaa
