/- The law QuotaSitesApart, walked: it returns true at every input. -/
import Derived.Test.YthjmglbjlfgmaaaLa
import Derived.Test.YthjmglbjlfgmaaaQw
namespace Go.Proofs.Ythjmglbjlfgmaaa
open Go Go.RowKit

/-- Left, of either of two lists that agree. -/
theorem Left_both {t c s k x : Int} {a l : List Use} (ha : leftF t c s k a = x) (hl : leftF t c s k l = x) (fa : Fits a) (fl : Fits l) (hq : Quo t c) (hk0 : 0 ≤ k) (hk1 : k ≤ 4000) :
    ∀ (W : World) (B : Option Addr) (cb : Nat) (r : List Use), (r = a ∨ r = l) → Sl W W.heap.size 3 B cb (r.map Use.row) →
    Calls Try.prog 20 #[.slice B r.length cb, .agg #[.int .i64 t, .int .i64 c], .int .i64 s, .int .i64 k] W fun e w' => e = .returned (.int .i64 x) ∧ Ext W w' := by
  intro W B cb r hr h
  rcases hr with rfl | rfl
  · have h1 := Left_any t c s k cb B W r h fa hq hk0 hk1
    rw [ha] at h1
    exact h1
  · have h1 := Left_any t c s k cb B W r h fl hq hk0 hk1
    rw [hl] at h1
    exact h1
theorem tri_iff (a b d : Int) : tri (a, b, d) = true ↔ (0 ≤ a ∧ a ≤ 20) ∧ (1 ≤ b ∧ b ≤ 8) ∧ 0 ≤ d ∧ d ≤ 1073741824 := by
  simp [tri, inB]

theorem SitesApart_big (t c site : Int) (cap : Nat) (A : Option Addr) (w : World) (l : List Use) (hbig : 40 < l.length) :
    Calls Try.prog 5 #[.slice A l.length cap, .agg #[.int .i64 t, .int .i64 c], .int .i64 site] w fun e w' => e = .returned (.bool true) ∧ Ext w w' := by
  go_enter Try.func5, Try.ntmps5
  go_wp2_with (go_at_call 8; refine (sanity_any _).mono ?_; rintro e w1 ⟨rfl, x1⟩)
  go_ret
  exact ⟨rfl, x1.un⟩

set_option maxHeartbeats 2000000 in
theorem SitesApart_arg (t c site : Int) (cap : Nat) (A : Option Addr) (w : World) (l : List Use) (hln : l.length ≤ 40) (h : ¬ (checkB t c = 0 ∧ 1 ≤ site ∧ site ≤ 8)) :
    Calls Try.prog 5 #[.slice A l.length cap, .agg #[.int .i64 t, .int .i64 c], .int .i64 site] w fun e w' => e = .returned (.bool true) ∧ Ext w w' := by
  by_cases hq : checkB t c = 0
  · have hqb : (checkB t c != 0) = false := by simp [hq]
    have HN := Lib.hid (fun hh : 1 ≤ site ∧ site ≤ 8 => h ⟨hq, hh⟩)
    clear hq h
    go_enter Try.func5, Try.ntmps5
    go_wp2_with (first | (go_at_call 13; refine (Check_any _ _ _).mono ?_; rintro e w1 ⟨rfl, x1⟩) | (go_at_call 8; refine (sanity_any _).mono ?_; rintro e w2 ⟨rfl, x2⟩))
    all_goals first
      | (exfalso; exact HN.out (by omega))
      | (go_ret; exact ⟨rfl, (x1.trans x2).un⟩)
  · have hqb : (checkB t c != 0) = true := by simp [hq]
    clear hq h
    go_enter Try.func5, Try.ntmps5
    go_wp2_with (first | (go_at_call 13; refine (Check_any _ _ _).mono ?_; rintro e w1 ⟨rfl, x1⟩) | (go_at_call 8; refine (sanity_any _).mono ?_; rintro e w2 ⟨rfl, x2⟩))
    go_ret
    exact ⟨rfl, (x1.trans x2).un⟩

set_option maxRecDepth 100000 in
set_option maxHeartbeats 8000000 in
theorem SitesApart_ok (t c site : Int) (cap : Nat) (A : Option Addr) (w : World) (l : List Use) (hs : Sl w w.heap.size 3 A cap (l.map Use.row)) (hln : l.length ≤ 40) (hq : checkB t c = 0) (hs0 : 1 ≤ site) (hs1 : site ≤ 8) :
    Calls Try.prog 5 #[.slice A l.length cap, .agg #[.int .i64 t, .int .i64 c], .int .i64 site] w fun e w' => e = .returned (.bool true) ∧ Ext w w' := by
  have hm := mixed
  have hG := near_old
  have HS := Lib.hid hs
  have hqb : (checkB t c != 0) = false := by simp [hq]
  have HQ := Lib.hid ((quo_iff t c).1 hq)
  clear hs hq
  have h0 := (Ext.refl (w.alloc (.cells #[.int .i64 t, .int .i64 c] 24)))
  go_enter Try.func5, Try.ntmps5
  go_wp2_with (go_at_call 13; refine (Check_any _ _ _).mono ?_; rintro e w1 ⟨rfl, x1⟩)
  have HX := Lib.hid (h0.trans x1)
  clear h0 x1
  go_loopw [7, 8, 9, 10] (fun v1 v2 tk i wr => ∃ (j : Nat) (A1 A2 : Option Addr) (c1 c2 : Nat) (a b : List Use) (T : Int), j ≤ l.length ∧ v1 = .slice A1 a.length c1 ∧ v2 = .slice A2 b.length c2 ∧ tk = .int .i64 T ∧ i = .int .i64 j ∧ Sl wr wr.heap.size 3 A1 c1 (a.map Use.row) ∧ Sl wr wr.heap.size 3 A2 c2 (b.map Use.row) ∧ Both t c site T (20 * j) j a b ∧ Ext (w.alloc (.cells #[.int .i64 t, .int .i64 c] 24)) wr) (fun _ _ _ i _ => l.length - (intOf i).toNat)
  case atStart => exact ⟨0, none, none, 0, 0, [], [], 0, Nat.zero_le _, rfl, rfl, rfl, rfl, Sl.nil _ _ _, Sl.nil _ _ _, both_nil t c site, HX.out⟩
  case round =>
    obtain ⟨j, A1, A2, c1, c2, a, b, T, hj, rfl, rfl, rfl, rfl, sa, sb, hB, hx⟩ := hrel
    have SA := Lib.hid sa; have SB := Lib.hid sb; have HB := Lib.hid hB
    clear sa sb hB
    have g0 := hx.box 0
    have g1 := hx.box 1
    simp only [List.getElem?_toArray, List.getElem?_cons_zero, List.getElem?_cons_succ] at g0 g1
    have hz := hx.size1
    by_cases hlt : j < l.length
    · obtain ⟨x, hxj⟩ : ∃ x, l[j]? = some x := ⟨_, List.getElem?_eq_getElem hlt⟩
      obtain ⟨b', off, rfl, hbl, e0, e1, e2⟩ := (HS.out.ext hx.un (Nat.le_refl _)).at3 (i := j) (by rw [List.getElem?_map, hxj]; rfl)
      clear hxj
      have y0 := hx.alloc (.cells #[.int .i64 x.tick, .int .i64 x.site, .int .i64 x.count] 37)
      cases htr : tri (x.tick, x.site, x.count) with
      | false =>
        go_wp2_with (first | (go_at_call 22; refine (tried_any _ _ _ _).mono ?_; rintro e w2 ⟨rfl, x2⟩; rw [htr]) | (go_at_call 8; refine (sanity_any _).mono ?_; rintro e w3 ⟨rfl, x3⟩))
        go_ret
        exact ⟨rfl, ((y0.trans x2).trans x3).un⟩
      | true =>
        obtain ⟨⟨t0, t1⟩, ⟨t2, t3⟩, t4, t5⟩ := (tri_iff _ _ _).1 htr
        have HB2 := Lib.hid (both_wait HB.out t0 t1)
        have hT0 := HB.out.low
        have hT1 := HB.out.top
        have HLB := Lib.hid (Left_both rfl (both_left HB2.out).symm (vld_fits HB2.out.va) (vld_fits HB2.out.vb) HQ.out (by omega) (by omega))
        generalize leftF t c site (T + x.tick) a = V at HLB
        go_wp2_with (go_at_call 22; refine (tried_any _ _ _ _).mono ?_; rintro e w2 ⟨rfl, x2⟩; rw [htr]; have k0 := x2.box 0; have k1 := x2.box 1; have k2 := x2.box 2; have y2 := y0.trans x2; have g2 := y2.box 0; have g3 := y2.box 1; simp only [List.getElem?_toArray, List.getElem?_cons_zero, List.getElem?_cons_succ] at k0 k1 k2 g2 g3)
        have hz2 := y2.size1
        refine wp_region_near (by assumption) (by kernel_rfl) ?_
        repeat (go_big_quiet_step ((go_at_call 20; exact near_call (HLB.out _ _ _ _ (by first | exact .inl rfl | exact .inr rfl) (by first | exact SA.out.to (((Ext.refl _).alloc _).trans (x2.trans (near_ext _ _ _))) | exact SB.out.to (((Ext.refl _).alloc _).trans (x2.trans (near_ext _ _ _))))))))
        refine wpQuiet_nil ?_
        intro w1 hw1
        have hy := Ext.of_near hw1
        clear hw1
        have z3 := x2.trans hy
        clear hy g0 g1
        have y3 := y0.trans z3
        clear k0 k1 k2 g2 g3
        have k0 := z3.box 0
        have k1 := z3.box 1
        have k2 := z3.box 2
        have g2 := y3.box 0
        have g3 := y3.box 1
        simp only [List.getElem?_toArray, List.getElem?_cons_zero, List.getElem?_cons_succ] at k0 k1 k2 g2 g3
        have hxw : Ext wr w1 := ((Ext.refl _).alloc _).trans z3
        have SA3 := Lib.hid (SA.out.to hxw); have SB3 := Lib.hid (SB.out.to hxw)
        have hjB : (20 * ((j + 1 : Nat) : Int)) = 20 * (j : Int) + 20 := by omega
        generalize hr1 : takeF t c x.site (T + x.tick) x.count a = r1
        generalize hr2 : takeF t c x.site (T + x.tick) x.count b = r2
        obtain ⟨r1, f1⟩ := r1
        obtain ⟨r2, f2⟩ := r2
        have HT1 := Lib.hid (fun (W : World) (h : Sl W W.heap.size 3 A1 c1 (a.map Use.row)) => take_at hr1 c1 A1 W h)
        have HT2 := Lib.hid (fun (W : World) (h : Sl W W.heap.size 3 A2 c2 (b.map Use.row)) => take_at hr2 c2 A2 W h)
        by_cases hsite : x.site = site
        · have hsb : (x.site == site) = true := by simp [hsite]
          have he := both_err (n := x.count) HB2.out HQ.out ⟨hs0, hs1⟩ (by omega) ⟨t4, t5⟩
          rw [← hsite, hr1, hr2] at he
          simp only at he
          subst he
          by_cases hf : f1 = 0
          · subst hf
            rw [hsite] at hr1 hr2
            have HN := Lib.hid (both_two HB2.out (by omega) hr1 hr2)
            clear hr1 hr2 hsite
            go_wp2_with fail
            refine (HT1.out _ SA3.out).mono ?_
            rintro e w4 ⟨A4, c4, rfl, s4, x4⟩
            have z4 := z3.trans x4
            have y4 := y0.trans z4
            clear k0 k1 k2 g2 g3
            have k0 := z4.box 0
            have k1 := z4.box 1
            have k2 := z4.box 2
            have g2 := y4.box 0
            have g3 := y4.box 1
            simp only [List.getElem?_toArray, List.getElem?_cons_zero, List.getElem?_cons_succ] at k0 k1 k2 g2 g3
            go_wp2_with fail
            refine (HT2.out _ (SB3.out.to x4)).mono ?_
            rintro e w5 ⟨A5, c5, rfl, s5, x5⟩
            have z5 := z4.trans x5
            have y5 := y0.trans z5
            clear k0 k1 k2 g2 g3
            have k0 := z5.box 0
            have k1 := z5.box 1
            have k2 := z5.box 2
            have g2 := y5.box 0
            have g3 := y5.box 1
            simp only [List.getElem?_toArray, List.getElem?_cons_zero, List.getElem?_cons_succ] at k0 k1 k2 g2 g3
            go_wp2_with fail
            go_roundw
            case rel => exact ⟨j + 1, A4, A5, c4, c5, r1, r2, T + x.tick, by omega, rfl, rfl, rfl, by go_num, s4.to x5, s5, by rw [hjB]; exact HN.out, y5⟩
            case measure => simp [intOf]; omega
          · have hfb : (f1 == 0) = false := by simpa using hf
            clear hr1 hr2 hsite
            go_wp2_with fail
            refine (HT1.out _ SA3.out).mono ?_
            rintro e w4 ⟨A4, c4, rfl, s4, x4⟩
            have z4 := z3.trans x4
            have y4 := y0.trans z4
            clear k0 k1 k2 g2 g3
            have k0 := z4.box 0
            have k1 := z4.box 1
            have k2 := z4.box 2
            have g2 := y4.box 0
            have g3 := y4.box 1
            simp only [List.getElem?_toArray, List.getElem?_cons_zero, List.getElem?_cons_succ] at k0 k1 k2 g2 g3
            go_wp2_with fail
            refine (HT2.out _ (SB3.out.to x4)).mono ?_
            rintro e w5 ⟨A5, c5, rfl, s5, x5⟩
            have z5 := z4.trans x5
            have y5 := y0.trans z5
            clear k0 k1 k2 g2 g3
            have k0 := z5.box 0
            have k1 := z5.box 1
            have k2 := z5.box 2
            have g2 := y5.box 0
            have g3 := y5.box 1
            simp only [List.getElem?_toArray, List.getElem?_cons_zero, List.getElem?_cons_succ] at k0 k1 k2 g2 g3
            go_wp2_with fail
            go_roundw
            case rel => exact ⟨j + 1, A1, A2, c1, c2, a, b, T + x.tick, by omega, rfl, rfl, rfl, by go_num, SA3.out.to (x4.trans x5), SB3.out.to (x4.trans x5), by rw [hjB]; exact both_more HB2.out, y5⟩
            case measure => simp [intOf]; omega
        · have hsb : (x.site == site) = false := by simpa using hsite
          by_cases hf : f1 = 0
          · subst hf
            have HN := Lib.hid (both_one HB2.out hsite (by omega) hr1)
            clear hr1 hr2 hsite
            go_wp2_with fail
            refine (HT1.out _ SA3.out).mono ?_
            rintro e w4 ⟨A4, c4, rfl, s4, x4⟩
            have z4 := z3.trans x4
            have y4 := y0.trans z4
            clear k0 k1 k2 g2 g3
            have k0 := z4.box 0
            have k1 := z4.box 1
            have k2 := z4.box 2
            have g2 := y4.box 0
            have g3 := y4.box 1
            simp only [List.getElem?_toArray, List.getElem?_cons_zero, List.getElem?_cons_succ] at k0 k1 k2 g2 g3
            go_wp2_with fail
            go_roundw
            case rel => exact ⟨j + 1, A4, A2, c4, c2, r1, b, T + x.tick, by omega, rfl, rfl, rfl, by go_num, s4, SB3.out.to x4, by rw [hjB]; exact HN.out, y4⟩
            case measure => simp [intOf]; omega
          · have hfb : (f1 == 0) = false := by simpa using hf
            clear hr1 hr2 hsite
            go_wp2_with fail
            refine (HT1.out _ SA3.out).mono ?_
            rintro e w4 ⟨A4, c4, rfl, s4, x4⟩
            have z4 := z3.trans x4
            have y4 := y0.trans z4
            clear k0 k1 k2 g2 g3
            have k0 := z4.box 0
            have k1 := z4.box 1
            have k2 := z4.box 2
            have g2 := y4.box 0
            have g3 := y4.box 1
            simp only [List.getElem?_toArray, List.getElem?_cons_zero, List.getElem?_cons_succ] at k0 k1 k2 g2 g3
            go_wp2_with fail
            go_roundw
            case rel => exact ⟨j + 1, A1, A2, c1, c2, a, b, T + x.tick, by omega, rfl, rfl, rfl, by go_num, SA3.out.to x4, SB3.out.to x4, by rw [hjB]; exact both_more HB2.out, y4⟩
            case measure => simp [intOf]; omega
    · obtain rfl : j = l.length := by omega
      go_wp2_with (go_at_call 8; refine (sanity_any _).mono ?_; rintro e w3 ⟨rfl, x3⟩)
      go_ret
      exact ⟨rfl, (hx.trans x3).un⟩

theorem SitesApart_any (t c site : Int) (cap : Nat) (A : Option Addr) (w : World) (l : List Use) (hs : Sl w w.heap.size 3 A cap (l.map Use.row)) :
    Calls Try.prog 5 #[.slice A l.length cap, .agg #[.int .i64 t, .int .i64 c], .int .i64 site] w fun e w' => e = .returned (.bool true) ∧ Ext w w' := by
  by_cases hbig : 40 < l.length
  · exact SitesApart_big t c site cap A w l hbig
  · by_cases h : checkB t c = 0 ∧ 1 ≤ site ∧ site ≤ 8
    · exact SitesApart_ok t c site cap A w l hs (by omega) h.1 h.2.1 h.2.2
    · exact SitesApart_arg t c site cap A w l (by omega) h
end Go.Proofs.Ythjmglbjlfgmaaa
