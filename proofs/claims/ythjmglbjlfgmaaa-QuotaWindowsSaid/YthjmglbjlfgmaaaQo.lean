/- Contract of quota.Take: the errors. -/
import Derived.Test.YthjmglbjlfgmaaaQn
namespace Go.Proofs.Ythjmglbjlfgmaaa
open Go Go.RowKit

theorem takeF_arg {t c s k n : Int} {l : List Use} (h : ¬ (checkB t c = 0 ∧ vldB l = true ∧ inB s 1 8 = true ∧ inB k 0 4000 = true ∧ inB n 0 1073741824 = true)) : takeF t c s k n l = ([], 1) := by unfold takeF; rw [if_pos h]

set_option maxRecDepth 100000 in
set_option maxHeartbeats 1000000 in
theorem Take_arg (t c s k n : Int) (cap : Nat) (A : Option Addr) (w : World) (l : List Use) (hs : Sl w w.heap.size 3 A cap (l.map Use.row)) (h : ¬ (checkB t c = 0 ∧ vldB l = true ∧ inB s 1 8 = true ∧ inB k 0 4000 = true ∧ inB n 0 1073741824 = true)) :
    Calls Try.prog 9 #[.slice A l.length cap, .agg #[.int .i64 t, .int .i64 c], .int .i64 s, .int .i64 k, .int .i64 n] w (RetTakeF (takeF t c s k n l) w) := by
  have HS := Lib.hid hs; clear hs
  have HF := Lib.hid (takeF_arg h)
  rcases or5 (checkB t c != 0) (vldB l) (inB s 1 8) (inB k 0 4000) (inB n 0 1073741824) with c0 | ⟨c0, c1⟩ | ⟨c0, c1, c2⟩ | ⟨c0, c1, c2, c3⟩ | ⟨c0, c1, c2, c3, c4⟩ | ⟨c0, c1, c2, c3, c4⟩
  case inr.inr.inr.inr.inr => exact absurd ⟨by simpa using c0, c1, c2, c3, c4⟩ h
  case inl =>
    clear h
    go_enter Try.func9, Try.ntmps9
    go_wp2_with (go_at_call 13; refine (Check_any t c _).mono ?_; rintro e w1 ⟨rfl, hx1⟩)
    go_ret2
    exact RetTakeF.err HF.out hx1.un
  all_goals
    clear h
    go_enter Try.func9, Try.ntmps9
    go_wp2_with (first | (go_at_call 13; refine (Check_any t c _).mono ?_; rintro e w1 ⟨rfl, hx1⟩) | (go_at_call 15; refine (Valid_any cap A _ l ((HS.out.ext hx1.un (Nat.le_refl _)).more hx1.un.size)).mono ?_; rintro e w2 ⟨rfl, hx2⟩) | (go_at_call 24; refine (within_any _ _ _ _).mono ?_; rintro e w' ⟨rfl, rfl⟩))
    go_ret2
    exact RetTakeF.err HF.out (hx1.trans hx2).un

/-- The last use, where there is one; and what is known of a take that is let by. -/
structure Ok (t c s k n : Int) (l : List Use) : Prop where
  quo : (checkB t c != 0) = false
  vld : vldB l = true
  site : inB s 1 8 = true
  tick : inB k 0 4000 = true
  num : inB n 0 1073741824 = true
theorem Ok.iff (t c s k n : Int) (l : List Use) : (checkB t c = 0 ∧ vldB l = true ∧ inB s 1 8 = true ∧ inB k 0 4000 = true ∧ inB n 0 1073741824 = true) ↔ Ok t c s k n l :=
  ⟨fun ⟨a, b, c, d, e⟩ => ⟨by simpa using a, b, c, d, e⟩, fun ⟨a, b, c, d, e⟩ => ⟨by simpa using a, b, c, d, e⟩⟩
theorem Ok.q {t c s k n : Int} {l : List Use} (h : Ok t c s k n l) : Quo t c := (quo_iff t c).1 (by simpa using h.quo)
theorem Ok.bounds {t c s k n : Int} {l : List Use} (h : Ok t c s k n l) : (1 ≤ s ∧ s ≤ 8) ∧ (0 ≤ k ∧ k ≤ 4000) ∧ 0 ≤ n ∧ n ≤ 1073741824 := by
  have := h.site; have := h.tick; have := h.num
  simp [inB] at *
  omega
theorem takeF_late {t c s k n : Int} {l : List Use} (h : Ok t c s k n l) (hl : late k l = true) : takeF t c s k n l = ([], 22) := by unfold takeF; rw [if_neg (fun hh => hh ((Ok.iff ..).2 h)), if_pos hl]
theorem takeF_quota {t c s k n : Int} {l : List Use} (h : Ok t c s k n l) (hl : late k l = false) (hq : leftF t c s k l < n) : takeF t c s k n l = ([], 12) := by unfold takeF; rw [if_neg (fun hh => hh ((Ok.iff ..).2 h)), if_neg (by simp [hl]), if_pos hq]
theorem takeF_zero {t c s k n : Int} {l : List Use} (h : Ok t c s k n l) (hl : late k l = false) (hq : ¬ leftF t c s k l < n) (hz : t = 0 ∨ n = 0) : takeF t c s k n l = (pruned t c k l, 0) := by unfold takeF; rw [if_neg (fun hh => hh ((Ok.iff ..).2 h)), if_neg (by simp [hl]), if_neg hq, if_pos hz]
theorem takeF_add {t c s k n : Int} {l : List Use} (h : Ok t c s k n l) (hl : late k l = false) (hq : ¬ leftF t c s k l < n) (hz : ¬ (t = 0 ∨ n = 0)) : takeF t c s k n l = (addU s k n (pruned t c k l), 0) := by unfold takeF; rw [if_neg (fun hh => hh ((Ok.iff ..).2 h)), if_neg (by simp [hl]), if_neg hq, if_neg hz]

set_option maxRecDepth 100000 in
set_option maxHeartbeats 1000000 in
theorem Take_late (t c s k n : Int) (cap : Nat) (A : Option Addr) (w : World) (l : List Use) (hs : Sl w w.heap.size 3 A cap (l.map Use.row)) (h : Ok t c s k n l) (hl : late k l = true) :
    Calls Try.prog 9 #[.slice A l.length cap, .agg #[.int .i64 t, .int .i64 c], .int .i64 s, .int .i64 k, .int .i64 n] w (RetTakeF (takeF t c s k n l) w) := by
  have HF := Lib.hid (takeF_late h hl)
  obtain ⟨c0, c1, c2, c3, c4⟩ := h
  have hln := ((vldB_iff l).1 c1).1
  have hpos : 0 < l.length := by
    cases l with
    | nil => simp [late] at hl
    | cons x r => simp
  obtain ⟨x, hxm⟩ : ∃ x, l[l.length - 1]? = some x := ⟨_, List.getElem?_eq_getElem (by omega)⟩
  obtain ⟨b', off, rfl, hbl, h0, h1, h2⟩ := hs.at3 (i := l.length - 1) (by rw [List.getElem?_map, hxm]; rfl)
  have hlt : k < x.tick := by
    have := late_last c1 hxm (k := k)
    rw [hl] at this
    exact of_decide_eq_true this.symm
  have HS := Lib.hid hs
  have H0 := Lib.hid h0
  clear hl hxm h0 h1 h2 hs
  go_enter Try.func9, Try.ntmps9
  go_wp2_with (first | (go_at_call 13; refine (Check_any t c _).mono ?_; rintro e w1 ⟨rfl, hx1⟩) | (go_at_call 15; refine (Valid_any cap _ _ l ((HS.out.ext hx1.un (Nat.le_refl _)).more hx1.un.size)).mono ?_; rintro e w2 ⟨rfl, hx2⟩; have g2 := ((hx1.trans hx2).un.cell (p := ⟨b', off + (l.length - 1) * 3, none⟩) hbl).trans H0.out) | (go_at_call 24; refine (within_any _ _ _ _).mono ?_; rintro e w' ⟨rfl, rfl⟩))
  go_ret2
  exact RetTakeF.err HF.out (hx1.trans hx2).un

end Go.Proofs.Ythjmglbjlfgmaaa
