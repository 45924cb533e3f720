/- The law QuotaTakeAdds, walked: it returns true at every input. -/
import Derived.Test.YthjmglbjlfgmaaaLa
import Derived.Test.YthjmglbjlfgmaaaQv
namespace Go.Proofs.Ythjmglbjlfgmaaa
open Go Go.RowKit

/-- Used, of either of two lists. -/
theorem Used_two {t s k x y : Int} (c : Int) {a l : List Use} (ha : used t s k a = x) (hl : used t s k l = y) (fa : Fits a) (fl : Fits l) (ht0 : 0 ≤ t) (ht1 : t ≤ 4000) (hk0 : 0 ≤ k) (hk1 : k ≤ 4000) :
    ∀ (W : World) (B : Option Addr) (cb : Nat) (r : List Use) (v : Int), ((r = a ∧ v = x) ∨ (r = l ∧ v = y)) → Sl W W.heap.size 3 B cb (r.map Use.row) →
    Calls Try.prog 18 #[.slice B r.length cb, .agg #[.int .i64 t, .int .i64 c], .int .i64 s, .int .i64 k] W fun e w' => e = .returned (.int .i64 v) ∧ Ext W w' := by
  intro W B cb r v hr h
  rcases hr with ⟨rfl, rfl⟩ | ⟨rfl, rfl⟩
  · have h1 := Used_any t c s k cb B W r h fa ht0 ht1 hk0 hk1
    rw [ha] at h1
    exact h1
  · have h1 := Used_any t c s k cb B W r h fl ht0 ht1 hk0 hk1
    rw [hl] at h1
    exact h1
theorem Left_two {t c s k x y : Int} {a l : List Use} (ha : leftF t c s k a = x) (hl : leftF t c s k l = y) (fa : Fits a) (fl : Fits l) (hq : Quo t c) (hk0 : 0 ≤ k) (hk1 : k ≤ 4000) :
    ∀ (W : World) (B : Option Addr) (cb : Nat) (r : List Use) (v : Int), ((r = a ∧ v = x) ∨ (r = l ∧ v = y)) → Sl W W.heap.size 3 B cb (r.map Use.row) →
    Calls Try.prog 20 #[.slice B r.length cb, .agg #[.int .i64 t, .int .i64 c], .int .i64 s, .int .i64 k] W fun e w' => e = .returned (.int .i64 v) ∧ Ext W w' := by
  intro W B cb r v hr h
  rcases hr with ⟨rfl, rfl⟩ | ⟨rfl, rfl⟩
  · have h1 := Left_any t c s k cb B W r h fa hq hk0 hk1
    rw [ha] at h1
    exact h1
  · have h1 := Left_any t c s k cb B W r h fl hq hk0 hk1
    rw [hl] at h1
    exact h1

theorem TakeAdds_big (t c s k n o : Int) (cap : Nat) (A : Option Addr) (w : World) (l : List Use) (hbig : 60 < l.length) :
    Calls Try.prog 7 #[.slice A l.length cap, .agg #[.int .i64 t, .int .i64 c], .int .i64 s, .int .i64 k, .int .i64 n, .int .i64 o] w fun e w' => e = .returned (.bool true) ∧ Ext w w' := by
  go_enter Try.func7, Try.ntmps7
  go_wp2_with (go_at_call 8; refine (sanity_any _).mono ?_; rintro e w1 ⟨rfl, x1⟩)
  go_ret
  exact ⟨rfl, x1.un⟩

set_option maxHeartbeats 2000000 in
theorem TakeAdds_err (t c s k n o : Int) (cap : Nat) (A : Option Addr) (w : World) (l : List Use) (hs : Sl w w.heap.size 3 A cap (l.map Use.row)) (hln : l.length ≤ 60) (code : Int) (hr : takeF t c s k n l = ([], code)) (hc : (code != 0) = true) :
    Calls Try.prog 7 #[.slice A l.length cap, .agg #[.int .i64 t, .int .i64 c], .int .i64 s, .int .i64 k, .int .i64 n, .int .i64 o] w fun e w' => e = .returned (.bool true) ∧ Ext w w' := by
  have hm := mixed
  have hG := near_old
  have HS := Lib.hid hs
  clear hs
  have h0 := (Ext.refl (w.alloc (.cells #[.int .i64 t, .int .i64 c] 24)))
  have HT := Lib.hid (fun (W : World) (h : Sl W W.heap.size 3 A cap (l.map Use.row)) => take_at hr cap A W h)
  clear hr
  go_enter Try.func7, Try.ntmps7
  go_wp2_with fail
  refine (HT.out _ (HS.out.to h0.un)).mono ?_
  rintro e w1 ⟨Aa, ca, rfl, sa, x1⟩
  have h1 := h0.trans x1
  simp only [List.length_nil]
  go_wp2_with (go_at_call 8; refine (sanity_any _).mono ?_; rintro e w2 ⟨rfl, x2⟩)
  go_ret
  exact ⟨rfl, (h1.trans x2).un⟩

set_option maxHeartbeats 2000000 in
theorem TakeAdds_zero (c s k n o : Int) (cap : Nat) (A : Option Addr) (w : World) (l : List Use) (hs : Sl w w.heap.size 3 A cap (l.map Use.row)) (hln : l.length ≤ 60) (hr : takeF 0 c s k n l = ([], 0)) (hq : RowKit.Hid (Quo 0 c)) (hk : 0 ≤ k ∧ k ≤ 4000) :
    Calls Try.prog 7 #[.slice A l.length cap, .agg #[.int .i64 0, .int .i64 c], .int .i64 s, .int .i64 k, .int .i64 n, .int .i64 o] w fun e w' => e = .returned (.bool true) ∧ Ext w w' := by
  have hm := mixed
  have hG := near_old
  have HS := Lib.hid hs
  clear hs
  have h0 := (Ext.refl (w.alloc (.cells #[.int .i64 0, .int .i64 c] 24)))
  have HT := Lib.hid (fun (W : World) (h : Sl W W.heap.size 3 A cap (l.map Use.row)) => take_at hr cap A W h)
  have HV := Lib.hid (fun (W : World) (A : Option Addr) (cap : Nat) (h : Sl W W.heap.size 3 A cap (([] : List Use).map Use.row)) => by
    have h1 := Valid_any cap A W [] h
    rw [show vldB [] = true by kernel_rfl] at h1
    exact h1)
  have HL := Lib.hid (fun (W : World) (A : Option Addr) (cap : Nat) (h : Sl W W.heap.size 3 A cap (([] : List Use).map Use.row)) => by
    have h1 := Left_any 0 c s k cap A W [] h ⟨by simp, fun u hu => by simp at hu⟩ hq.out hk.1 hk.2
    rw [show leftF 0 c s k [] = 1073741824 by rfl] at h1
    exact h1)
  clear hr
  simp only [List.length_nil] at HT HV HL
  go_enter Try.func7, Try.ntmps7
  go_wp2_with fail
  refine (HT.out _ (HS.out.to h0.un)).mono ?_
  rintro e w1 ⟨Aa, ca, rfl, sa, x1⟩
  have h1 := h0.trans x1
  have g0 := h1.box 0
  have g1 := h1.box 1
  simp only [List.getElem?_toArray, List.getElem?_cons_zero, List.getElem?_cons_succ] at g0 g1
  simp only [List.length_nil]
  go_wp2_with (first | (go_at_call 15; refine (HV.out _ _ _ sa).mono ?_; rintro e w2 ⟨rfl, x2⟩; have h2 := h1.trans x2; clear g0 g1; have g0 := h2.box 0; have g1 := h2.box 1; simp only [List.getElem?_toArray, List.getElem?_cons_zero, List.getElem?_cons_succ] at g0 g1) | (go_at_call 8; refine (sanity_any _).mono ?_; rintro e w3 ⟨rfl, x3⟩; have h3 := h2.trans x3; clear g0 g1; have g0 := h3.box 0; have g1 := h3.box 1; simp only [List.getElem?_toArray, List.getElem?_cons_zero, List.getElem?_cons_succ] at g0 g1) | (go_at_call 20; refine (HL.out _ _ _ (sa.to (x2.trans x3))).mono ?_; rintro e w4 ⟨rfl, x4⟩))
  go_ret
  exact ⟨rfl, (h3.trans x4).un⟩

set_option maxRecDepth 100000 in
set_option maxHeartbeats 4000000 in
theorem TakeAdds_ok (t c s k n o : Int) (cap : Nat) (A : Option Addr) (w : World) (l a : List Use) (hs : Sl w w.heap.size 3 A cap (l.map Use.row)) (hln : l.length ≤ 60) (hr : takeF t c s k n l = (a, 0)) (hk : Took t c s k n l a) (ht : ¬ t = 0) :
    Calls Try.prog 7 #[.slice A l.length cap, .agg #[.int .i64 t, .int .i64 c], .int .i64 s, .int .i64 k, .int .i64 n, .int .i64 o] w fun e w' => e = .returned (.bool true) ∧ Ext w w' := by
  have hm := mixed
  have hG := near_old
  have HS := Lib.hid hs
  have hq := hk.quo
  have hva := hk.next (by omega)
  have fa := vld_fits hva
  have fl := vld_fits hk.vld
  have hk0 := hk.tick.1
  have hk1 := hk.tick.2
  have hn := hk.num
  have ht2 : 1 ≤ t ∧ t ≤ 4000 := by rcases hq with h | h <;> omega
  have ht0 : 0 ≤ t := by omega
  generalize hU : used t s k l = U
  generalize hV : used t o k l = V
  generalize hL : leftF t c s k l = L
  have hub := used_take_bd t s k l fl l.length
  rw [List.take_length, hU] at hub
  have hua : used t s k a = U + n := by rw [hk.used s k (Int.le_refl _), hU, if_pos ⟨rfl, by omega⟩]
  have hlb : 0 ≤ L ∧ L ≤ 1073741824 := by rw [← hL]; unfold leftF; rw [if_neg ht]; rcases hq with h | h <;> omega
  have hla : leftF t c s k a = L - n := by
    have := hk.fits
    rw [hL] at this
    rw [← hL] at this ⊢
    unfold leftF at this ⊢
    rw [if_neg ht] at this ⊢
    rw [hua, hU] at *
    omega
  have hle : n ≤ L := by rw [← hL]; exact hk.fits
  have hvo : ¬ o = s → used t o k a = V := fun h => by rw [hk.used o k (Int.le_refl _), hV, if_neg (by omega)]; omega
  have h0 := (Ext.refl (w.alloc (.cells #[.int .i64 t, .int .i64 c] 24)))
  have HT := Lib.hid (fun (W : World) (h : Sl W W.heap.size 3 A cap (l.map Use.row)) => take_at hr cap A W h)
  have HV := Lib.hid (fun (W : World) (A : Option Addr) (cap : Nat) (h : Sl W W.heap.size 3 A cap (a.map Use.row)) => by
    have h1 := Valid_any cap A W a h
    rw [hva] at h1
    exact h1)
  have HU := Lib.hid (Used_two c hua hU fa fl ht0 ht2.2 hk0 hk1)
  have HL := Lib.hid (Left_two hla hL fa fl hq hk0 hk1)
  have HO := Lib.hid (fun h => Used_two c (hvo h) hV fa fl ht0 ht2.2 hk0 hk1)
  have htb : (t == 0) = false := by simpa using ht
  clear hs hr hk hq hva fa fl hU hV hL hua hla hvo ht
  go_enter Try.func7, Try.ntmps7
  go_wp2_with fail
  refine (HT.out _ (HS.out.to h0.un)).mono ?_
  rintro e w1 ⟨Aa, ca, rfl, sa, x1⟩
  have h1 := h0.trans x1
  have g0 := h1.box 0
  have g1 := h1.box 1
  simp only [List.getElem?_toArray, List.getElem?_cons_zero, List.getElem?_cons_succ] at g0 g1
  go_wp2_with (go_at_call 15; refine (HV.out _ _ _ sa).mono ?_; rintro e w2 ⟨rfl, x2⟩; have h2 := h1.trans x2; clear g0 g1; have g0 := h2.box 0; have g1 := h2.box 1; simp only [List.getElem?_toArray, List.getElem?_cons_zero, List.getElem?_cons_succ] at g0 g1)
  have SA := Lib.hid (sa.to x2)
  clear sa
  have hz2 := h2.size1
  refine wp_region_near (by assumption) (by kernel_rfl) ?_
  repeat (go_big_quiet_step ((first | (go_at_call 18; exact near_call (HU.out _ _ _ _ _ (by first | exact .inl ⟨rfl, rfl⟩ | exact .inr ⟨rfl, rfl⟩) (by first | exact SA.out.to (near_ext _ _ _) | exact HS.out.to (h2.un.trans (near_ext _ _ _))))) | (go_at_call 20; exact near_call (HL.out _ _ _ _ _ (by first | exact .inl ⟨rfl, rfl⟩ | exact .inr ⟨rfl, rfl⟩) (by first | exact SA.out.to (near_ext _ _ _) | exact HS.out.to (h2.un.trans (near_ext _ _ _))))))))
  refine wpQuiet_nil ?_
  intro w1 hw1
  have hy := Ext.of_near hw1
  clear hw1
  have h3 := h2.trans hy
  have SA3 := Lib.hid (SA.out.to hy)
  clear g0 g1 hy SA
  have g0 := h3.box 0
  have g1 := h3.box 1
  have hz3 := h3.size1
  simp only [List.getElem?_toArray, List.getElem?_cons_zero, List.getElem?_cons_succ] at g0 g1
  by_cases ho : o = s
  · subst ho
    go_wp2_with fail
    refine wp_region_near (by assumption) (by kernel_rfl) ?_
    repeat (go_big_quiet_step (fail))
    refine wpQuiet_nil ?_
    intro w1 hw1
    have hy := Ext.of_near hw1
    clear hw1
    have h4 := h3.trans hy
    go_wp2_with (go_at_call 8; refine (sanity_any _).mono ?_; rintro e w5 ⟨rfl, x5⟩)
    go_ret
    exact ⟨by simp, (h4.trans x5).un⟩
  · have hob : (o == s) = false := by simpa using ho
    have HO2 := Lib.hid (HO.out ho)
    clear ho HO
    go_wp2_with fail
    refine wp_region_near (by assumption) (by kernel_rfl) ?_
    repeat (go_big_quiet_step ((go_at_call 18; exact near_call (HO2.out _ _ _ _ _ (by first | exact .inl ⟨rfl, rfl⟩ | exact .inr ⟨rfl, rfl⟩) (by first | exact SA3.out.to (near_ext _ _ _) | exact HS.out.to (h3.un.trans (near_ext _ _ _)))))))
    refine wpQuiet_nil ?_
    intro w1 hw1
    have hy := Ext.of_near hw1
    clear hw1
    have h4 := h3.trans hy
    go_wp2_with (go_at_call 8; refine (sanity_any _).mono ?_; rintro e w5 ⟨rfl, x5⟩)
    go_ret
    exact ⟨by simp, (h4.trans x5).un⟩

theorem TakeAdds_any (t c s k n o : Int) (cap : Nat) (A : Option Addr) (w : World) (l : List Use) (hs : Sl w w.heap.size 3 A cap (l.map Use.row)) :
    Calls Try.prog 7 #[.slice A l.length cap, .agg #[.int .i64 t, .int .i64 c], .int .i64 s, .int .i64 k, .int .i64 n, .int .i64 o] w fun e w' => e = .returned (.bool true) ∧ Ext w w' := by
  by_cases hbig : 60 < l.length
  · exact TakeAdds_big t c s k n o cap A w l hbig
  · have hln : l.length ≤ 60 := by omega
    generalize hr : takeF t c s k n l = r
    obtain ⟨a, code⟩ := r
    by_cases hc : code = 0
    · subst hc
      have hk := took hr
      by_cases ht : t = 0
      · subst ht
        have := hk.none rfl
        subst this
        exact TakeAdds_zero c s k n o cap A w l hs hln hr (Lib.hid hk.quo) hk.tick
      · exact TakeAdds_ok t c s k n o cap A w l a hs hln hr hk ht
    · have := take_none hr hc
      subst this
      exact TakeAdds_err t c s k n o cap A w l hs hln code hr (by simpa using hc)
end Go.Proofs.Ythjmglbjlfgmaaa
