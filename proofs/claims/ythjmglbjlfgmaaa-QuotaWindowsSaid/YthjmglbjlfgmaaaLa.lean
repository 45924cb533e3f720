/- The law QuotaMatchesSpec, walked: it returns true at every input. -/
import Derived.Test.YthjmglbjlfgmaaaQu
import Derived.Deep.RegionHeld3
namespace Go.Proofs.Ythjmglbjlfgmaaa
open Go Go.RowKit

theorem same_self_at (l : List Use) (c1 c2 : Nat) (A B : Option Addr) (w : World) (ha : Sl w w.heap.size 3 A c1 (l.map Use.row)) (hb : Sl w w.heap.size 3 B c2 (l.map Use.row)) :
    Calls Try.prog 12 #[.slice A l.length c1, .slice B l.length c2] w fun e w' => e = .returned (.bool true) ∧ Ext w w' := same_at l c1 c2 A B w ha hb
theorem refprune_at {t c k : Int} {l r : List Use} (h : pruned t c k l = r) (cap : Nat) (A : Option Addr) (w : World) (hs : Sl w w.heap.size 3 A cap (l.map Use.row)) (hb : l.length ≤ 1000000) (hq : Quo t c) (hk0 : 0 ≤ k) (hk1 : k ≤ 4000) :
    Calls Try.prog 17 #[.slice A l.length cap, .agg #[.int .i64 t, .int .i64 c], .int .i64 k] w (RetSl r w) := by
  subst h
  exact (refPrune_any t c k cap A w l hs hb hq hk0 hk1).mono fun _ _ h => h.read
theorem near_ext (w : World) (n : Nat) (os : Array Obj) : Ext w (near w n os) := Ext.of_near ⟨⟨n, os⟩, rfl⟩

set_option maxRecDepth 100000 in
set_option maxHeartbeats 4000000 in
theorem MatchesSpec_any (t c s k n : Int) (cap : Nat) (A : Option Addr) (w : World) (l : List Use) (hs : Sl w w.heap.size 3 A cap (l.map Use.row)) :
    Calls Try.prog 3 #[.slice A l.length cap, .agg #[.int .i64 t, .int .i64 c], .int .i64 s, .int .i64 k, .int .i64 n] w fun e w' => e = .returned (.bool true) ∧ Ext w w' := by
  have hm := mixed
  have hG := near_old
  have HS := Lib.hid hs
  clear hs
  by_cases hbig : 60 < l.length
  · go_enter Try.func3, Try.ntmps3
    go_wp2_with (go_at_call 8; refine (sanity_any _).mono ?_; rintro e w1 ⟨rfl, x1⟩)
    go_ret
    exact ⟨rfl, x1.un⟩
  · have hln : l.length ≤ 60 := by omega
    generalize hr : takeF t c s k n l = r
    obtain ⟨r, code⟩ := r
    have HT := Lib.hid (fun W (h : Sl W W.heap.size 3 A cap (l.map Use.row)) => Take_any t c s k n cap A W l h)
    have HR := Lib.hid (fun W (h : Sl W W.heap.size 3 A cap (l.map Use.row)) => refTake_any t c s k n cap A W l h)
    rw [hr] at HT HR
    clear hr
    go_enter Try.func3, Try.ntmps3
    go_wp2_with fail
    have h0 := (Ext.refl (w.alloc (.cells #[.int .i64 t, .int .i64 c] 24)))
    refine (HT.out _ (HS.out.to h0.un)).mono ?_
    rintro e w1 ⟨Aa, ca, rfl, sa, x1⟩
    have h1 := h0.trans x1
    have g0 := h1.box 0
    have g1 := h1.box 1
    simp only [List.getElem?_toArray, List.getElem?_cons_zero, List.getElem?_cons_succ] at g0 g1
    go_wp2_with fail
    refine (HR.out _ (HS.out.to h1.un)).mono ?_
    rintro e w2 ⟨Ab, cb, rfl, sb, x2⟩
    have h2 := h1.trans x2
    go_wp2_with fail
    refine (refValid_any cap A _ l (HS.out.to h2.un)).mono ?_
    rintro e w3 ⟨rfl, x3⟩
    go_wp2_with fail
    refine (same_self_at r ca cb Aa Ab _ (sa.to (x2.trans x3)) (sb.to x3)).mono ?_
    rintro e w4 ⟨rfl, x4⟩
    have h4 := (h2.trans x3).trans x4
    clear g0 g1
    have g0 := h4.box 0
    have g1 := h4.box 1
    have hz4 := h4.size1
    simp only [List.getElem?_toArray, List.getElem?_cons_zero, List.getElem?_cons_succ] at g0 g1
    go_wp2_with fail
    refine wp_region_near (by assumption) (by kernel_rfl) ?_
    repeat (go_big_quiet_step ((first | (go_at_call 13; exact near_call (Check_any _ _ _)) | (go_at_call 14; exact near_call (refCheck_any _ _ _)) | (go_at_call 15; exact near_call (Valid_any cap A _ l (HS.out.to (h4.un.trans (near_ext _ _ _))))))))
    refine wpQuiet_nil ?_
    intro w1 hw1
    have hy := Ext.of_near hw1
    clear hw1
    have h5 := h4.trans hy
    clear g0 g1 hy
    have g0 := h5.box 0
    have g1 := h5.box 1
    simp only [List.getElem?_toArray, List.getElem?_cons_zero, List.getElem?_cons_succ] at g0 g1
    by_cases hok : vldB l = true ∧ checkB t c = 0 ∧ 0 ≤ k ∧ k ≤ 4000
    · obtain ⟨v1, v2, hk0, hk1⟩ := hok
      have v2b : (checkB t c != 0) = false := by simp [v2]
      have HQ := Lib.hid ((quo_iff t c).1 v2)
      have HF := Lib.hid (vld_fits v1)
      clear v2
      have ht : 0 ≤ t ∧ t ≤ 4000 := by rcases HQ.out with h | h <;> omega
      go_wp2_with (go_at_call 14; refine (refCheck_any _ _ _).mono ?_; rintro e w6 ⟨rfl, x6⟩)
      have h6 := h5.trans x6
      clear g0 g1
      have g0 := h6.box 0
      have g1 := h6.box 1
      simp only [List.getElem?_toArray, List.getElem?_cons_zero, List.getElem?_cons_succ] at g0 g1
      have hz6 := h6.size1
      go_region_held3 (fun w' => w'.cell? ⟨w.heap.size, 0, none⟩ = some (.int .i64 t) ∧ w'.cell? ⟨w.heap.size, 1, none⟩ = some (.int .i64 c)) (first | go_keep | exact ⟨by assumption, by assumption⟩) (first | (go_at_call 16; refine (prune_at rfl cap A _ (HS.out.to (h6.un.trans (Ext.refl _).drew)) (by omega) ht.1 ht.2 hk0 hk1).mono ?_; rintro e w7 ⟨Ap, cp, rfl, sp, x7⟩; have h7 := h6.trans ((Ext.refl _).drew.trans x7); have e0 := h7.box 0; have e1 := h7.box 1; simp only [List.getElem?_toArray, List.getElem?_cons_zero, List.getElem?_cons_succ] at e0 e1) | (go_at_call 17; refine (refprune_at rfl cap A _ (HS.out.to h7.un) (by omega) HQ.out hk0 hk1).mono ?_; rintro e w8 ⟨Aq, cq, rfl, sq, x8⟩; have h8 := h7.trans x8; have e2 := h8.box 0; have e3 := h8.box 1; simp only [List.getElem?_toArray, List.getElem?_cons_zero, List.getElem?_cons_succ] at e2 e3) | (go_at_call 12; refine (same_self_at _ cp cq Ap Aq _ (sp.to x8) sq).mono ?_; rintro e w9 ⟨rfl, x9⟩; have h9 := h8.trans x9; have e4 := h9.box 0; have e5 := h9.box 1; simp only [List.getElem?_toArray, List.getElem?_cons_zero, List.getElem?_cons_succ] at e4 e5))
      have hz9 := h9.size1
      go_wp2_with fail
      refine wp_region_near (by assumption) (by kernel_rfl) ?_
      repeat (go_big_quiet_step ((first | (go_at_call 8; exact near_call (sanity_any _)) | (go_at_call 18; exact near_call (Used_any t c s k cap A _ l (HS.out.to (h9.un.trans (near_ext _ _ _))) HF.out ht.1 ht.2 hk0 hk1)) | (go_at_call 19; exact near_call (refUsed_any t c s k cap A _ l (HS.out.to (h9.un.trans (near_ext _ _ _))) HF.out ht.1 ht.2 hk0 hk1)) | (go_at_call 20; exact near_call (Left_any t c s k cap A _ l (HS.out.to (h9.un.trans (near_ext _ _ _))) HF.out HQ.out hk0 hk1)) | (go_at_call 21; exact near_call (refLeft_any t c s k cap A _ l (HS.out.to (h9.un.trans (near_ext _ _ _))) HF.out HQ.out hk0 hk1)))))
      refine wpQuiet_nil ?_
      intro w1 hw1
      have hy := Ext.of_near hw1
      clear hw1
      go_wp2_with fail
      go_ret
      exact ⟨by simp, (h9.trans hy).un⟩
    · by_cases hv : vldB l = true
      · by_cases hq : checkB t c = 0
        · have hqb : (checkB t c != 0) = false := by simp [hq]
          have hk : k < 0 ∨ 4000 < k := by
            by_cases h1 : 0 ≤ k
            · by_cases h2 : k ≤ 4000
              · exact absurd ⟨hv, hq, h1, h2⟩ hok
              · exact .inr (by omega)
            · exact .inl (by omega)
          clear hok hq
          go_wp2_with (first | (go_at_call 14; refine (refCheck_any _ _ _).mono ?_; rintro e w6 ⟨rfl, x6⟩) | (go_at_call 8; refine (sanity_any _).mono ?_; rintro e w7 ⟨rfl, x7⟩))
          all_goals
            go_ret
            exact ⟨rfl, ((h5.trans x6).trans x7).un⟩
        · have hqb : (checkB t c != 0) = true := by simp [hq]
          clear hok hq
          go_wp2_with (first | (go_at_call 14; refine (refCheck_any _ _ _).mono ?_; rintro e w6 ⟨rfl, x6⟩) | (go_at_call 8; refine (sanity_any _).mono ?_; rintro e w7 ⟨rfl, x7⟩))
          go_ret
          exact ⟨rfl, ((h5.trans x6).trans x7).un⟩
      · have hvb : vldB l = false := by simpa using hv
        clear hok hv
        go_wp2_with (first | (go_at_call 14; refine (refCheck_any _ _ _).mono ?_; rintro e w6 ⟨rfl, x6⟩) | (go_at_call 8; refine (sanity_any _).mono ?_; rintro e w7 ⟨rfl, x7⟩))
        go_ret
        exact ⟨rfl, (h5.trans x7).un⟩
end Go.Proofs.Ythjmglbjlfgmaaa
