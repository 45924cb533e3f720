/- The law QuotaPrunes, walked: it returns true at every input. -/
import Derived.Test.YthjmglbjlfgmaaaLa
import Derived.Test.YthjmglbjlfgmaaaQv
namespace Go.Proofs.Ythjmglbjlfgmaaa
open Go Go.RowKit

set_option maxRecDepth 100000 in
set_option maxHeartbeats 4000000 in
theorem Prunes_ok (t c k k' s n : Int) (cap : Nat) (A : Option Addr) (w : World) (l : List Use) (hs : Sl w w.heap.size 3 A cap (l.map Use.row)) (hln : l.length ≤ 60) (hv : vldB l = true) (hqb : (checkB t c != 0) = false) (HQ : RowKit.Hid (Quo t c)) (HF : RowKit.Hid (Fits l))
    (hok : 1 ≤ t ∧ 0 ≤ k ∧ 0 ≤ k' ∧ k' ≤ 4000 ∧ k ≤ k' ∧ 1 ≤ s ∧ s ≤ 8 ∧ 0 ≤ n ∧ n ≤ 1073741824) :
    Calls Try.prog 6 #[.slice A l.length cap, .agg #[.int .i64 t, .int .i64 c], .int .i64 k, .int .i64 k', .int .i64 s, .int .i64 n] w fun e w' => e = .returned (.bool true) ∧ Ext w w' := by
  have hm := mixed
  have hG := near_old
  have HS := Lib.hid hs
  clear hs
  have h0 := (Ext.refl (w.alloc (.cells #[.int .i64 t, .int .i64 c] 24)))
  obtain ⟨o1, o2, o3, o4, o5, o6, o7, o8, o9⟩ := hok
  have ht : 0 ≤ t ∧ t ≤ 4000 := by rcases HQ.out with h | h <;> omega
  have hk1 : k ≤ 4000 := by omega
  generalize hr : takeF t c s k' n l = r
  generalize hp : pruned t c k l = p
  obtain ⟨r, code⟩ := r
  have hr2 := pruned_takeF HQ.out o1 o5 s n hv
  have hvp := pruned_vld (t := t) (c := c) (k := k) hv
  have hu := pruned_used HQ.out s k' o5 l (fun u hu => ⟨(HF.out.2 u hu).2.2.1, (HF.out.2 u hu).2.2.2⟩)
  have hlf := pruned_left HQ.out o5 s hv
  rw [hp] at hr2 hvp hu hlf
  rw [hr] at hr2
  have HT := Lib.hid (fun (W : World) (A : Option Addr) (cap : Nat) (h : Sl W W.heap.size 3 A cap (l.map Use.row)) => take_at hr cap A W h)
  have HR := Lib.hid (fun (W : World) (A : Option Addr) (cap : Nat) (h : Sl W W.heap.size 3 A cap (p.map Use.row)) => take_at hr2 cap A W h)
  have HP := Lib.hid (fun (W : World) (h : Sl W W.heap.size 3 A cap (l.map Use.row)) => prune_at hp cap A W h (by omega) ht.1 ht.2 o2 hk1)
  have HFp := Lib.hid (vld_fits hvp)
  have HVp := Lib.hid hvp
  have HUS := Lib.hid (fun (W : World) (B : Option Addr) (cb : Nat) (r : List Use) (hr : r = p ∨ r = l) (h : Sl W W.heap.size 3 B cb (r.map Use.row)) => by
    have h1 := Used_any t c s k' cb B W r h (hr.elim (fun e => by rw [e]; exact HFp.out) (fun e => by rw [e]; exact HF.out)) ht.1 ht.2 o3 o4
    rw [show used t s k' r = used t s k' l from hr.elim (fun e => by rw [e]; exact hu) (fun e => by rw [e])] at h1
    exact h1)
  have HLS := Lib.hid (fun (W : World) (B : Option Addr) (cb : Nat) (r : List Use) (hr : r = p ∨ r = l) (h : Sl W W.heap.size 3 B cb (r.map Use.row)) => by
    have h1 := Left_any t c s k' cb B W r h (hr.elim (fun e => by rw [e]; exact HFp.out) (fun e => by rw [e]; exact HF.out)) HQ.out o3 o4
    rw [show leftF t c s k' r = leftF t c s k' l from hr.elim (fun e => by rw [e]; exact hlf) (fun e => by rw [e])] at h1
    exact h1)
  clear hr hr2 hvp hu hlf hp
  go_enter Try.func6, Try.ntmps6
  go_wp2_with (first | (go_at_call 15; refine (Valid_any cap A _ l (HS.out.to h0.un)).mono ?_; rintro e w1 ⟨rfl, x1⟩; rw [hv]; have h1 := h0.trans x1; have g0 := h1.box 0; have g1 := h1.box 1; simp only [List.getElem?_toArray, List.getElem?_cons_zero, List.getElem?_cons_succ] at g0 g1) | (go_at_call 13; refine (Check_any _ _ _).mono ?_; rintro e w2 ⟨rfl, x2⟩; have h2 := h1.trans x2; clear g0 g1; have g0 := h2.box 0; have g1 := h2.box 1; simp only [List.getElem?_toArray, List.getElem?_cons_zero, List.getElem?_cons_succ] at g0 g1))
  refine (HP.out _ (HS.out.to h2.un)).mono ?_
  rintro e w3 ⟨Ap, cp, rfl, sp, x3⟩
  have h3 := h2.trans x3
  clear g0 g1
  have g0 := h3.box 0
  have g1 := h3.box 1
  simp only [List.getElem?_toArray, List.getElem?_cons_zero, List.getElem?_cons_succ] at g0 g1
  go_wp2_with fail
  refine (HT.out _ _ _ (HS.out.to h3.un)).mono ?_
  rintro e w4 ⟨Aa, ca, rfl, sa, x4⟩
  have h4 := h3.trans x4
  replace sp := sp.to x4
  clear g0 g1
  have g0 := h4.box 0
  have g1 := h4.box 1
  simp only [List.getElem?_toArray, List.getElem?_cons_zero, List.getElem?_cons_succ] at g0 g1
  go_wp2_with fail
  refine (HR.out _ _ _ sp).mono ?_
  rintro e w5 ⟨Ab, cb, rfl, sb, x5⟩
  have h5 := h4.trans x5
  replace sp := sp.to x5
  replace sa := sa.to x5
  go_wp2_with fail
  refine (same_self_at r ca cb Aa Ab _ sa sb).mono ?_
  rintro e w6 ⟨rfl, x6⟩
  have h6 := h5.trans x6
  have SP := Lib.hid (sp.to x6)
  clear g0 g1 sa sb sp
  have g0 := h6.box 0
  have g1 := h6.box 1
  simp only [List.getElem?_toArray, List.getElem?_cons_zero, List.getElem?_cons_succ] at g0 g1
  have hz6 := h6.size1
  have hvq : vldB p = true := HVp.out
  go_wp2_with fail
  refine wp_region_near (by assumption) (by kernel_rfl) ?_
  repeat (go_big_quiet_step ((first | (go_at_call 8; exact near_call (sanity_any _)) | (go_at_call 15; exact near_call (Valid_any cp Ap _ p (SP.out.to (near_ext _ _ _)))) | (go_at_call 18; exact near_call (HUS.out _ _ _ _ (by first | exact .inl rfl | exact .inr rfl) (by first | exact SP.out.to (near_ext _ _ _) | exact HS.out.to (h6.un.trans (near_ext _ _ _))))) | (go_at_call 20; exact near_call (HLS.out _ _ _ _ (by first | exact .inl rfl | exact .inr rfl) (by first | exact SP.out.to (near_ext _ _ _) | exact HS.out.to (h6.un.trans (near_ext _ _ _))))))))
  refine wpQuiet_nil ?_
  intro w1 hw1
  have hy := Ext.of_near hw1
  clear hw1
  go_wp2_with fail
  go_ret
  exact ⟨by simp [hvq], (h6.trans hy).un⟩

set_option maxRecDepth 100000 in
set_option maxHeartbeats 4000000 in
theorem Prunes_bad (t c k k' s n : Int) (cap : Nat) (A : Option Addr) (w : World) (l : List Use) (hs : Sl w w.heap.size 3 A cap (l.map Use.row)) (hln : l.length ≤ 60) (hv : vldB l = true) (hqb : (checkB t c != 0) = false)
    (hok : ¬ (1 ≤ t ∧ 0 ≤ k ∧ 0 ≤ k' ∧ k' ≤ 4000 ∧ k ≤ k' ∧ 1 ≤ s ∧ s ≤ 8 ∧ 0 ≤ n ∧ n ≤ 1073741824)) :
    Calls Try.prog 6 #[.slice A l.length cap, .agg #[.int .i64 t, .int .i64 c], .int .i64 k, .int .i64 k', .int .i64 s, .int .i64 n] w fun e w' => e = .returned (.bool true) ∧ Ext w w' := by
  have hm := mixed
  have hG := near_old
  have HS := Lib.hid hs
  clear hs
  have h0 := (Ext.refl (w.alloc (.cells #[.int .i64 t, .int .i64 c] 24)))
  have HN := Lib.hid hok
  clear hok
  go_enter Try.func6, Try.ntmps6
  go_wp2_with (first | (go_at_call 15; refine (Valid_any cap A _ l (HS.out.to h0.un)).mono ?_; rintro e w1 ⟨rfl, x1⟩; rw [hv]; have h1 := h0.trans x1; have g0 := h1.box 0; have g1 := h1.box 1; simp only [List.getElem?_toArray, List.getElem?_cons_zero, List.getElem?_cons_succ] at g0 g1) | (go_at_call 13; refine (Check_any _ _ _).mono ?_; rintro e w2 ⟨rfl, x2⟩; have h2 := h1.trans x2; clear g0 g1; have g0 := h2.box 0; have g1 := h2.box 1; simp only [List.getElem?_toArray, List.getElem?_cons_zero, List.getElem?_cons_succ] at g0 g1) | (go_at_call 8; refine (sanity_any _).mono ?_; rintro e w3 ⟨rfl, x3⟩))
  all_goals first
    | (exfalso; exact HN.out (by omega))
    | (go_ret; exact ⟨rfl, (h2.trans x3).un⟩)

set_option maxRecDepth 100000 in
set_option maxHeartbeats 4000000 in
theorem Prunes_any (t c k k' s n : Int) (cap : Nat) (A : Option Addr) (w : World) (l : List Use) (hs : Sl w w.heap.size 3 A cap (l.map Use.row)) :
    Calls Try.prog 6 #[.slice A l.length cap, .agg #[.int .i64 t, .int .i64 c], .int .i64 k, .int .i64 k', .int .i64 s, .int .i64 n] w fun e w' => e = .returned (.bool true) ∧ Ext w w' := by
  have hm := mixed
  have hG := near_old
  have HS := Lib.hid hs
  clear hs
  have h0 := (Ext.refl (w.alloc (.cells #[.int .i64 t, .int .i64 c] 24)))
  by_cases hbig : 60 < l.length
  · go_enter Try.func6, Try.ntmps6
    go_wp2_with (go_at_call 8; refine (sanity_any _).mono ?_; rintro e w1 ⟨rfl, x1⟩)
    go_ret
    exact ⟨rfl, x1.un⟩
  · have hln : l.length ≤ 60 := by omega
    cases hv : vldB l with
    | false =>
      go_enter Try.func6, Try.ntmps6
      go_wp2_with (first | (go_at_call 15; refine (Valid_any cap A _ l (HS.out.to h0.un)).mono ?_; rintro e w1 ⟨rfl, x1⟩; rw [hv]) | (go_at_call 8; refine (sanity_any _).mono ?_; rintro e w2 ⟨rfl, x2⟩))
      go_ret
      exact ⟨rfl, (x1.trans x2).un⟩
    | true =>
      have HV := Lib.hid hv
      by_cases hq : checkB t c = 0
      · have hqb : (checkB t c != 0) = false := by simp [hq]
        have HQ := Lib.hid ((quo_iff t c).1 hq)
        have HF := Lib.hid (vld_fits hv)
        clear hq
        by_cases hok : 1 ≤ t ∧ 0 ≤ k ∧ 0 ≤ k' ∧ k' ≤ 4000 ∧ k ≤ k' ∧ 1 ≤ s ∧ s ≤ 8 ∧ 0 ≤ n ∧ n ≤ 1073741824
        · exact Prunes_ok t c k k' s n cap A w l HS.out hln hv hqb HQ HF hok
        · exact Prunes_bad t c k k' s n cap A w l HS.out hln hv hqb hok
      · have hqb : (checkB t c != 0) = true := by simp [hq]
        clear hq
        go_enter Try.func6, Try.ntmps6
        go_wp2_with (first | (go_at_call 15; refine (Valid_any cap A _ l (HS.out.to h0.un)).mono ?_; rintro e w1 ⟨rfl, x1⟩; rw [hv]; have h1 := h0.trans x1; have g0 := h1.box 0; have g1 := h1.box 1; simp only [List.getElem?_toArray, List.getElem?_cons_zero, List.getElem?_cons_succ] at g0 g1) | (go_at_call 13; refine (Check_any _ _ _).mono ?_; rintro e w2 ⟨rfl, x2⟩) | (go_at_call 8; refine (sanity_any _).mono ?_; rintro e w3 ⟨rfl, x3⟩))
        go_ret
        exact ⟨rfl, ((h1.trans x2).trans x3).un⟩
end Go.Proofs.Ythjmglbjlfgmaaa
