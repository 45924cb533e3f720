/- The law QuotaWindows, walked: it returns true at every input. -/
import Derived.Test.YthjmglbjlfgmaaaLa
import Derived.Test.YthjmglbjlfgmaaaQw
import Derived.Test.YthjmglbjlfgmaaaGrow
namespace Go.Proofs.Ythjmglbjlfgmaaa
open Go Go.RowKit

theorem take_atF {t c s k n : Int} {l : List Use} {r : List Use × Int} (h : takeF t c s k n l = r) (cap : Nat) (A : Option Addr) (w : World) (hs : Sl w w.heap.size 3 A cap (l.map Use.row)) :
    Calls Try.prog 9 #[.slice A l.length cap, .agg #[.int .i64 t, .int .i64 c], .int .i64 s, .int .i64 k, .int .i64 n] w (RetTakeF r w) := by
  have h1 := Take_anyF t c s k n cap A w l hs
  rw [h] at h1
  exact h1
theorem tri_iff' (a b d : Int) : tri (a, b, d) = true ↔ (0 ≤ a ∧ a ≤ 20) ∧ (1 ≤ b ∧ b ≤ 8) ∧ 0 ≤ d ∧ d ≤ 1073741824 := by
  simp [tri, inB]

theorem Windows_big (t c : Int) (cap : Nat) (A : Option Addr) (w : World) (l : List Use) (hbig : 40 < l.length) :
    Calls Try.prog 4 #[.slice A l.length cap, .agg #[.int .i64 t, .int .i64 c]] w fun e w' => e = .returned (.bool true) ∧ Ext w w' := by
  go_enter Try.func4, Try.ntmps4
  go_wp2_with (go_at_call 8; refine (sanity_any _).mono ?_; rintro e w1 ⟨rfl, x1⟩)
  go_ret
  exact ⟨rfl, x1.un⟩

set_option maxHeartbeats 2000000 in
theorem Windows_arg (t c : Int) (cap : Nat) (A : Option Addr) (w : World) (l : List Use) (hln : l.length ≤ 40) (h : ¬ (checkB t c = 0 ∧ 1 ≤ t)) :
    Calls Try.prog 4 #[.slice A l.length cap, .agg #[.int .i64 t, .int .i64 c]] w fun e w' => e = .returned (.bool true) ∧ Ext w w' := by
  by_cases hq : checkB t c = 0
  · have hqb : (checkB t c != 0) = false := by simp [hq]
    have ht : t < 1 := by by_cases h1 : 1 ≤ t; exact absurd ⟨hq, h1⟩ h; omega
    clear hq h
    go_enter Try.func4, Try.ntmps4
    go_wp2_with (first | (go_at_call 13; refine (Check_any _ _ _).mono ?_; rintro e w1 ⟨rfl, x1⟩; have g0 := x1.box 0; have g1 := x1.box 1; simp only [List.getElem?_toArray, List.getElem?_cons_zero, List.getElem?_cons_succ] at g0 g1) | (go_at_call 8; refine (sanity_any _).mono ?_; rintro e w2 ⟨rfl, x2⟩))
    go_ret
    exact ⟨rfl, (x1.trans x2).un⟩
  · have hqb : (checkB t c != 0) = true := by simp [hq]
    clear hq h
    go_enter Try.func4, Try.ntmps4
    go_wp2_with (first | (go_at_call 13; refine (Check_any _ _ _).mono ?_; rintro e w1 ⟨rfl, x1⟩) | (go_at_call 8; refine (sanity_any _).mono ?_; rintro e w2 ⟨rfl, x2⟩))
    go_ret
    exact ⟨rfl, (x1.trans x2).un⟩

set_option maxRecDepth 100000 in
set_option maxHeartbeats 8000000 in
theorem Windows_ok (t c : Int) (cap : Nat) (A : Option Addr) (w : World) (l : List Use) (hs : Sl w w.heap.size 3 A cap (l.map Use.row)) (hln : l.length ≤ 40) (hq : checkB t c = 0) (ht1 : 1 ≤ t) :
    Calls Try.prog 4 #[.slice A l.length cap, .agg #[.int .i64 t, .int .i64 c]] w fun e w' => e = .returned (.bool true) ∧ Ext w w' := by
  have hm := mixed
  have hG := near_old
  obtain ⟨i0, hi, hz0, hz1, hz2⟩ := info_parts infoUse
  have HI := Lib.hid hi; have HZ := Lib.hid hz0; have HZ1 := Lib.hid hz1; have HZ2 := Lib.hid hz2; clear hi hz0 hz1 hz2
  have HS := Lib.hid hs
  have hqb : (checkB t c != 0) = false := by simp [hq]
  have hQ := (quo_iff t c).1 hq
  have hc : 0 ≤ c ∧ c ≤ 1073741824 ∧ t ≤ 4000 := by rcases hQ with h | h <;> omega
  have HQ := Lib.hid hQ
  clear hs hq hQ
  have h0 := (Ext.refl (w.alloc (.cells #[.int .i64 t, .int .i64 c] 24)))
  go_enter Try.func4, Try.ntmps4
  go_wp2_with (go_at_call 13; refine (Check_any _ _ _).mono ?_; rintro e w1 ⟨rfl, x1⟩; have g0 := x1.box 0; have g1 := x1.box 1; simp only [List.getElem?_toArray, List.getElem?_cons_zero, List.getElem?_cons_succ] at g0 g1)
  have HX := Lib.hid (h0.trans x1)
  clear h0 x1 g0 g1
  go_loopw [5, 6, 7, 8] (fun v1 v2 tk i wr => ∃ (j : Nat) (A1 A2 : Option Addr) (c1 c2 : Nat) (a b : List Use) (T : Int), j ≤ l.length ∧ v1 = .slice A1 a.length c1 ∧ v2 = .slice A2 b.length c2 ∧ tk = .int .i64 T ∧ i = .int .i64 j ∧ Sl wr wr.heap.size 3 A1 c1 (a.map Use.row) ∧ wr.ownsRow (w.heap.size + 1) 40 3 (.slice A2 b.length c2) b.length (b.map Use.row).flatten ∧ Apart (a.map Use.row) A1 (.slice A2 b.length c2) ∧ Win t c T (20 * j) j a b ∧ Ext (w.alloc (.cells #[.int .i64 t, .int .i64 c] 24)) wr) (fun _ _ _ i _ => l.length - (intOf i).toNat)
  case atStart => exact ⟨0, none, none, 0, 0, [], [], 0, Nat.zero_le _, rfl, rfl, rfl, rfl, Sl.nil _ _ _, World.ownsRow_nil _ _ _ _, Apart.nil _, win_nil hc.1, HX.out⟩
  case round =>
    obtain ⟨j, A1, A2, c1, c2, a, b, T, hj, rfl, rfl, rfl, rfl, sa, hO, hap, hB, hx⟩ := hrel
    have SA := Lib.hid sa; have HO := Lib.hid hO; have HA := Lib.hid hap; have HB := Lib.hid hB
    clear sa hO hap hB
    have g0 := hx.box 0
    have g1 := hx.box 1
    simp only [List.getElem?_toArray, List.getElem?_cons_zero, List.getElem?_cons_succ] at g0 g1
    have hz := hx.size1
    by_cases hlt : j < l.length
    · obtain ⟨x, hxj⟩ : ∃ x, l[j]? = some x := ⟨_, List.getElem?_eq_getElem hlt⟩
      obtain ⟨b', off, rfl, hbl, e0, e1, e2⟩ := (HS.out.ext hx.un (Nat.le_refl _)).at3 (i := j) (by rw [List.getElem?_map, hxj]; rfl)
      clear hxj
      have y0 := hx.alloc (.cells #[.int .i64 x.tick, .int .i64 x.site, .int .i64 x.count] 37)
      cases htr : tri (x.tick, x.site, x.count) with
      | false =>
        go_wp2_with (first | (go_at_call 22; refine (tried_any _ _ _ _).mono ?_; rintro e w2 ⟨rfl, x2⟩; rw [htr]) | (go_at_call 8; refine (sanity_any _).mono ?_; rintro e w3 ⟨rfl, x3⟩))
        go_ret
        exact ⟨rfl, ((y0.trans x2).trans x3).un⟩
      | true =>
        obtain ⟨⟨t0, t1⟩, ⟨t2, t3⟩, t4, t5⟩ := (tri_iff' _ _ _).1 htr
        have hB2 := win_wait HB.out t0 t1
        have HB2 := Lib.hid hB2
        have hT0 := HB.out.low
        have hT1 := HB.out.top
        have hF := win_fits hB2 (by omega) (by omega)
        have HF := Lib.hid hF
        have hbl2 : b.length ≤ 40 := by have := hB2.lt; omega
        have HPT := Lib.hid hB2.pt
        clear hB2 hF
        go_wp2_with (go_at_call 22; refine (tried_any _ _ _ _).mono ?_; rintro e w2 ⟨rfl, x2⟩; rw [htr]; have k0 := x2.box 0; have k1 := x2.box 1; have k2 := x2.box 2; have y2 := y0.trans x2; have g2 := y2.box 0; have g3 := y2.box 1; simp only [List.getElem?_toArray, List.getElem?_cons_zero, List.getElem?_cons_succ] at k0 k1 k2 g2 g3)
        have hxw : Ext wr w2 := ((Ext.refl _).alloc _).trans x2
        have HO2 := Lib.hid (own_ext HO.out hxw)
        have SB := Lib.hid (Sl.of_own HO2.out (rws_map b) (by simp))
        have hjB : (20 * ((j + 1 : Nat) : Int)) = 20 * (j : Int) + 20 := by omega
        clear k0 k1 k2 g0 g1 g2 g3
        go_loopw [11, 12] (fun sm i wi => ∃ m : Nat, m ≤ b.length ∧ i = .int .i64 m ∧ sm = .int .i64 (used t x.site (T + x.tick) (b.take m)) ∧ Ext w2 wi) (fun _ i _ => b.length - (intOf i).toNat)
        case atStart => exact ⟨0, Nat.zero_le _, rfl, by simp [used], Ext.refl _⟩
        case round =>
          obtain ⟨m, hmj, rfl, rfl, hi⟩ := hrel
          have yi := y2.trans hi
          have xi := x2.trans hi
          have k0 := xi.box 0
          have k1 := xi.box 1
          have k2 := xi.box 2
          have g2 := yi.box 0
          have g3 := yi.box 1
          simp only [List.getElem?_toArray, List.getElem?_cons_zero, List.getElem?_cons_succ] at k0 k1 k2 g2 g3
          have hzi := hi.size
          have hz2 := xi.size1
          have hub := used_take_bd t x.site (T + x.tick) b HF.out m
          by_cases hlm : m < b.length
          · obtain ⟨y, hym⟩ : ∃ y, b[m]? = some y := ⟨_, List.getElem?_eq_getElem hlm⟩
            obtain ⟨bb, oo, rfl, hbb, f0, f1, f2⟩ := (SB.out.ext hi (Nat.le_refl _)).at3 (i := m) (by rw [List.getElem?_map, hym]; rfl)
            have hyb := HF.out.2 y (List.mem_of_getElem? hym)
            have hyt := HPT.out y (List.mem_of_getElem? hym)
            have HU := Lib.hid (used_take t x.site (T + x.tick) b m y hym); clear hym
            have hb1 : bb < wr.heap.size := by omega
            have hb2 : w.heap.size < wr.heap.size := by omega
            by_cases q1 : y.site = x.site
            · have q1b : (y.site == x.site) = true := by simp [q1]
              by_cases q2 : T + x.tick - t < y.tick
              · have q2b : decide (T + x.tick - t < y.tick) = true := by simp [q2]
                have HU2 := Lib.hid (show _ = _ from HU.out.trans (by rw [if_pos ⟨q1, by omega, hyt⟩]))
                clear q1 q2
                go_wp2_with fail
                refine wp_region_near (by assumption) (by kernel_rfl) ?_
                repeat (go_big_quiet_step (fail))
                refine wpQuiet_nil ?_
                intro w1 hw1
                have hy := Ext.of_near hw1
                clear hw1
                have f3 := hy.cell (p := ⟨bb, oo + m * 3 + 2, none⟩) (by exact hb1)
                rw [f2] at f3
                go_wp2_with fail
                go_roundw
                case rel => exact ⟨m + 1, by omega, by go_num, int_eq HU2.out.symm, hi.trans hy⟩
                case measure => simp [intOf]; omega
              · have q2b : decide (T + x.tick - t < y.tick) = false := by simp; omega
                have HU2 := Lib.hid (show _ = _ from HU.out.trans (by rw [if_neg (by omega), Int.add_zero]))
                clear q1 q2
                go_wp2_with fail
                refine wp_region_near (by assumption) (by kernel_rfl) ?_
                repeat (go_big_quiet_step (fail))
                refine wpQuiet_nil ?_
                intro w1 hw1
                have hy := Ext.of_near hw1
                clear hw1
                go_wp2_with fail
                go_roundw
                case rel => exact ⟨m + 1, by omega, by go_num, int_eq HU2.out.symm, hi.trans hy⟩
                case measure => simp [intOf]; omega
            · have q1b : (y.site == x.site) = false := by simpa using q1
              have HU2 := Lib.hid (show _ = _ from HU.out.trans (by rw [if_neg (fun h => q1 h.1), Int.add_zero]))
              clear q1
              go_wp2_with fail
              refine wp_region_near (by assumption) (by kernel_rfl) ?_
              repeat (go_big_quiet_step (fail))
              refine wpQuiet_nil ?_
              intro w1 hw1
              have hy := Ext.of_near hw1
              clear hw1
              go_wp2_with fail
              go_roundw
              case rel => exact ⟨m + 1, by omega, by go_num, int_eq HU2.out.symm, hi.trans hy⟩
              case measure => simp [intOf]; omega
          · obtain rfl : m = b.length := by omega
            rw [List.take_length] at hub ⊢
            generalize hr1 : takeF t c x.site (T + x.tick) x.count a = r1
            obtain ⟨r1, f1⟩ := r1
            have HT1 := Lib.hid (fun (W : World) (h : Sl W W.heap.size 3 A1 c1 (a.map Use.row)) => take_atF hr1 c1 A1 W h)
            have SAi := Lib.hid (SA.out.to (hxw.trans hi))
            have HOi := Lib.hid (own_ext HO2.out hi)
            by_cases hf : f1 = 0
            · subst hf
              obtain ⟨hle, hW⟩ := win_ok HB2.out ht1 (by omega) hr1
              have HW := Lib.hid hW
              clear hr1 hW
              generalize used t x.site (T + x.tick) b = S at *
              have hd : decide (c < S + x.count) = false := by simp; omega
              go_wp2_with fail
              refine (HT1.out _ SAi.out).mono ?_
              rintro e w4 ⟨A4, c4, rfl, s4, x4, hA4⟩
              have z4 := xi.trans x4
              have y4 := yi.trans x4
              clear k0 k1 k2 g2 g3
              have k0 := z4.box 0
              have k1 := z4.box 1
              have k2 := z4.box 2
              have g2 := y4.box 0
              have g3 := y4.box 1
              simp only [List.getElem?_toArray, List.getElem?_cons_zero, List.getElem?_cons_succ] at k0 k1 k2 g2 g3
              have HO4 := Lib.hid (own_ext HOi.out x4)
              have HAP := Lib.hid (Apart.fresh (xs := r1.map Use.row) HOi.out hA4)
              have S4 := Lib.hid s4
              clear hA4 s4
              go_wp2_with fail
              refine (use_any _ _ _ _).mono ?_
              rintro e w5 ⟨rfl, x5⟩
              have y5 := y4.trans x5
              have HOa := Lib.hid (fun o : Obj => (own_ext HO4.out x5).alloc o)
              have hz5 := y5.size1
              go_wp2_with (at_builtin; refine wpList_append_mine _ rfl _ _ 22 rfl (w.heap.size + 1) 40 i0 (.agg #[.int .i64 0, .int .i64 0, .int .i64 0]) 3 24 Try.underlying22 HI.out HZ.out HZ1.out HZ2.out rfl (by decide) _ b.length _ rfl (HOa.out _) ⟨w5.heap.size, 0, none⟩ 1 1 (Use.row ⟨T + x.tick, x.site, x.count⟩) rfl rfl ?c2 ?c3 ?c4 ?c5 ?c6 ?_)
              case c2 => exact news_new _ _ _
              case c3 => exact row_one
              case c4 => unfold maxLen; omega
              case c5 => omega
              case c6 => simp; omega
              intro v' w6 q1 q2 q3
              have S6 := Lib.hid (Sl.grown (S4.out.to (x5.alloc _)) q2 HAP.out)
              have HAP6 := Lib.hid (Apart.grown HAP.out (S4.out.to (x5.alloc (.cells #[] 40))) (by simpa using q3))
              have HX6 := Lib.hid ((y5.alloc _).own (HOa.out _) q2 (by simp))
              have q1' : w6.ownsRow (w.heap.size + 1) 40 3 v' (b ++ [Use.mk (T + x.tick) x.site x.count]).length ((b ++ [Use.mk (T + x.tick) x.site x.count]).map Use.row).flatten := by simpa using q1
              obtain ⟨A6, c6, rfl, _, _⟩ := own_form q1'
              have HO6 := Lib.hid q1'
              clear q1 q2 q3 q1'
              go_wp2
              go_roundw
              case rel => exact ⟨j + 1, A4, A6, c4, c6, r1, b ++ [⟨T + x.tick, x.site, x.count⟩], T + x.tick, by omega, rfl, rfl, rfl, by go_num, S6.out, HO6.out, HAP6.out, by rw [hjB]; exact HW.out, HX6.out⟩
              case measure => simp [intOf]; omega
            · have hfb : (f1 != 0) = true := by simpa using hf
              obtain ⟨rfl, rfl, hle⟩ := win_err HB2.out HQ.out ht1 (by omega) ⟨t2, t3⟩ ⟨t4, t5⟩ hr1 hf
              generalize used t x.site (T + x.tick) b = S at *
              have hd : decide (S + x.count ≤ c) = false := by simp; omega
              clear hr1 hf
              go_wp2_with fail
              refine (HT1.out _ SAi.out).mono ?_
              rintro e w4 ⟨A4, c4, rfl, s4, x4, _⟩
              have z4 := xi.trans x4
              have y4 := yi.trans x4
              clear k0 k1 k2 g2 g3
              have k0 := z4.box 0
              have k1 := z4.box 1
              have k2 := z4.box 2
              have g2 := y4.box 0
              have g3 := y4.box 1
              simp only [List.getElem?_toArray, List.getElem?_cons_zero, List.getElem?_cons_succ] at k0 k1 k2 g2 g3
              simp only [List.length_nil]
              go_wp2_with fail
              go_roundw
              case rel => exact ⟨j + 1, A1, A2, c1, c2, a, b, T + x.tick, by omega, rfl, rfl, rfl, by go_num, SAi.out.to x4, own_ext HOi.out x4, HA.out, by rw [hjB]; exact win_more HB2.out, y4⟩
              case measure => simp [intOf]; omega
    · obtain rfl : j = l.length := by omega
      go_wp2_with (go_at_call 8; refine (sanity_any _).mono ?_; rintro e w3 ⟨rfl, x3⟩)
      go_ret
      exact ⟨rfl, (hx.trans x3).un⟩

theorem Windows_any (t c : Int) (cap : Nat) (A : Option Addr) (w : World) (l : List Use) (hs : Sl w w.heap.size 3 A cap (l.map Use.row)) :
    Calls Try.prog 4 #[.slice A l.length cap, .agg #[.int .i64 t, .int .i64 c]] w fun e w' => e = .returned (.bool true) ∧ Ext w w' := by
  by_cases hbig : 40 < l.length
  · exact Windows_big t c cap A w l hbig
  · by_cases h : checkB t c = 0 ∧ 1 ≤ t
    · exact Windows_ok t c cap A w l hs (by omega) h.1 h.2
    · exact Windows_arg t c cap A w l (by omega) h
end Go.Proofs.Ythjmglbjlfgmaaa
