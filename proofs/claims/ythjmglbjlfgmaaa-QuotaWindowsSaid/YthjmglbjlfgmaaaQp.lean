/- Contract of quota.Take: what is let by. -/
import Derived.Test.YthjmglbjlfgmaaaQo
namespace Go.Proofs.Ythjmglbjlfgmaaa
open Go Go.RowKit

/-- The last use, where there is one: no later than the tick. -/
theorem Ok.last {t c s k n : Int} {l : List Use} (h : Ok t c s k n l) (hl : late k l = false) {x : Use} (hx : l[l.length - 1]? = some x) : x.tick ≤ k := by
  have := late_last h.vld hx (k := k)
  rw [hl] at this
  have := of_decide_eq_false this.symm
  omega

set_option maxRecDepth 100000 in
set_option maxHeartbeats 2000000 in
theorem Take_mid (t c s k n : Int) (cap : Nat) (A : Option Addr) (w : World) (l : List Use) (hs : Sl w w.heap.size 3 A cap (l.map Use.row)) (h : Ok t c s k n l) (hl : late k l = false) (hz : leftF t c s k l < n ∨ (¬ leftF t c s k l < n ∧ ((t = 0 ∧ c = 0) ∨ n = 0))) :
    Calls Try.prog 9 #[.slice A l.length cap, .agg #[.int .i64 t, .int .i64 c], .int .i64 s, .int .i64 k, .int .i64 n] w (RetTakeF (takeF t c s k n l) w) := by
  have hf := vld_fits h.vld
  have hq := h.q
  have hb := h.bounds
  have ht : 0 ≤ t ∧ t ≤ 4000 := by rcases hq with h | h <;> omega
  have hln := hf.1
  have HF1 := Lib.hid (takeF_quota h hl)
  have HF2 := Lib.hid (takeF_zero h hl)
  have hlast : ∀ x, l[l.length - 1]? = some x → x.tick ≤ k := fun x hx => h.last hl hx
  obtain ⟨c0, c1, c2, c3, c4⟩ := h
  have HFit := Lib.hid hf; have HQ := Lib.hid hq; have HS := Lib.hid hs
  have HLV := Lib.hid (Left_any t c s k cap A · l)
  generalize leftF t c s k l = lv at *
  obtain ⟨hb1, ⟨hk0, hk1⟩, hb3⟩ := hb
  -- the last use's cell, if there is one
  obtain ⟨F, HG, HD⟩ : ∃ F : World → Prop, Hid (∀ w2, Ext w w2 → F w2) ∧ ((l.length = 0 ∧ F = fun _ => True) ∨ ∃ (x : Use) (b' off : Nat), 0 < l.length ∧ x.tick ≤ k ∧ A = some ⟨b', off, none⟩ ∧ F = fun w2 => w2.cell? ⟨b', off + (l.length - 1) * 3, none⟩ = some (.int .i64 x.tick)) := by
    rcases Nat.eq_zero_or_pos l.length with h0 | hpos
    · exact ⟨fun _ => True, fun _ _ => trivial, .inl ⟨h0, rfl⟩⟩
    · obtain ⟨x, hxm⟩ : ∃ x, l[l.length - 1]? = some x := ⟨_, List.getElem?_eq_getElem (by omega)⟩
      obtain ⟨b', off, rfl, hbl, h0, h1, h2⟩ := hs.at3 (i := l.length - 1) (by rw [List.getElem?_map, hxm]; rfl)
      exact ⟨_, fun w2 hx => (hx.cell (p := ⟨b', off + (l.length - 1) * 3, none⟩) hbl).trans h0, .inr ⟨x, b', off, hpos, hlast x hxm, rfl, rfl⟩⟩
  have HE := Lib.hid (show ∀ u : Prop, u ↔ u from fun _ => Iff.rfl)
  clear hlast hl hs hf hq
  rcases HD with ⟨h0, rfl⟩ | ⟨x, b', off, hpos, hxk, rfl, rfl⟩
  · have hd0 : ¬ 0 < l.length := by omega
    clear h0
    rcases hz with hz | ⟨hz, ⟨rfl, rfl⟩ | rfl⟩
    · go_enter Try.func9, Try.ntmps9
      go_wp2_with (first | (go_at_call 13; refine (Check_any _ _ _).mono ?_; rintro e w1 ⟨rfl, hx1⟩) | (go_at_call 15; refine (Valid_any cap _ _ l ((HS.out.ext hx1.un (Nat.le_refl _)).more hx1.un.size)).mono ?_; rintro e w2 ⟨rfl, hx2⟩; have hx := hx1.trans hx2; have g0 := hx.box 0; have g1 := hx.box 1; simp only [List.getElem?_toArray, List.getElem?_cons_zero, List.getElem?_cons_succ] at g0 g1; have g2 := HG.out _ hx.un) | (go_at_call 24; refine (within_any _ _ _ _).mono ?_; rintro e w' ⟨rfl, rfl⟩))
      refine (HLV.out _ ((HS.out.ext hx.un (Nat.le_refl _)).more hx.un.size) HFit.out HQ.out hk0 hk1).mono ?_
      rintro e w3 ⟨rfl, hx3⟩
      have g3 := (hx.trans hx3).box 0
      have g4 := (hx.trans hx3).box 1
      simp only [List.getElem?_toArray, List.getElem?_cons_zero, List.getElem?_cons_succ] at g3 g4
      go_wp2_with fail
      go_ret2
      exact RetTakeF.err (HF1.out hz) (hx.trans hx3).un
    · go_enter Try.func9, Try.ntmps9
      go_wp2_with (first | (go_at_call 13; refine (Check_any _ _ _).mono ?_; rintro e w1 ⟨rfl, hx1⟩) | (go_at_call 15; refine (Valid_any cap _ _ l ((HS.out.ext hx1.un (Nat.le_refl _)).more hx1.un.size)).mono ?_; rintro e w2 ⟨rfl, hx2⟩; have hx := hx1.trans hx2; have g0 := hx.box 0; have g1 := hx.box 1; simp only [List.getElem?_toArray, List.getElem?_cons_zero, List.getElem?_cons_succ] at g0 g1; have g2 := HG.out _ hx.un) | (go_at_call 24; refine (within_any _ _ _ _).mono ?_; rintro e w' ⟨rfl, rfl⟩))
      refine (HLV.out _ ((HS.out.ext hx.un (Nat.le_refl _)).more hx.un.size) HFit.out HQ.out hk0 hk1).mono ?_
      rintro e w3 ⟨rfl, hx3⟩
      have g3 := (hx.trans hx3).box 0
      have g4 := (hx.trans hx3).box 1
      simp only [List.getElem?_toArray, List.getElem?_cons_zero, List.getElem?_cons_succ] at g3 g4
      go_wp2_with fail
      refine (Prune_uses _ _ k _ cap _ _ ((HS.out.ext (hx.trans hx3).un (Nat.le_refl _)).more (hx.trans hx3).un.size) (by omega) ht.1 ht.2 hk0 hk1).mono ?_
      rintro e w4 ⟨v, rfl, ho, hx4⟩
      have HO := Lib.hid ho; clear ho
      have g5 := ((hx.trans hx3).trans hx4).box 0
      have g6 := ((hx.trans hx3).trans hx4).box 1
      simp only [List.getElem?_toArray, List.getElem?_cons_zero, List.getElem?_cons_succ] at g5 g6
      go_wp2
      go_ret2
      exact RetTakeF.own (HF2.out hz (by simp)) (by simp) HO.out (((hx.trans hx3)).un.trans hx4) ((hx.trans hx3)).un.size
    · go_enter Try.func9, Try.ntmps9
      go_wp2_with (first | (go_at_call 13; refine (Check_any _ _ _).mono ?_; rintro e w1 ⟨rfl, hx1⟩) | (go_at_call 15; refine (Valid_any cap _ _ l ((HS.out.ext hx1.un (Nat.le_refl _)).more hx1.un.size)).mono ?_; rintro e w2 ⟨rfl, hx2⟩; have hx := hx1.trans hx2; have g0 := hx.box 0; have g1 := hx.box 1; simp only [List.getElem?_toArray, List.getElem?_cons_zero, List.getElem?_cons_succ] at g0 g1; have g2 := HG.out _ hx.un) | (go_at_call 24; refine (within_any _ _ _ _).mono ?_; rintro e w' ⟨rfl, rfl⟩))
      refine (HLV.out _ ((HS.out.ext hx.un (Nat.le_refl _)).more hx.un.size) HFit.out HQ.out hk0 hk1).mono ?_
      rintro e w3 ⟨rfl, hx3⟩
      have g3 := (hx.trans hx3).box 0
      have g4 := (hx.trans hx3).box 1
      simp only [List.getElem?_toArray, List.getElem?_cons_zero, List.getElem?_cons_succ] at g3 g4
      go_wp2_with fail
      refine (Prune_uses _ _ k _ cap _ _ ((HS.out.ext (hx.trans hx3).un (Nat.le_refl _)).more (hx.trans hx3).un.size) (by omega) ht.1 ht.2 hk0 hk1).mono ?_
      rintro e w4 ⟨v, rfl, ho, hx4⟩
      have HO := Lib.hid ho; clear ho
      have g5 := ((hx.trans hx3).trans hx4).box 0
      have g6 := ((hx.trans hx3).trans hx4).box 1
      simp only [List.getElem?_toArray, List.getElem?_cons_zero, List.getElem?_cons_succ] at g5 g6
      go_wp2
      all_goals
        go_ret2
        exact RetTakeF.own (HF2.out hz (by simp)) (by simp) HO.out (((hx.trans hx3)).un.trans hx4) ((hx.trans hx3)).un.size
  · rcases hz with hz | ⟨hz, ⟨rfl, rfl⟩ | rfl⟩
    · go_enter Try.func9, Try.ntmps9
      go_wp2_with (first | (go_at_call 13; refine (Check_any _ _ _).mono ?_; rintro e w1 ⟨rfl, hx1⟩) | (go_at_call 15; refine (Valid_any cap _ _ l ((HS.out.ext hx1.un (Nat.le_refl _)).more hx1.un.size)).mono ?_; rintro e w2 ⟨rfl, hx2⟩; have hx := hx1.trans hx2; have g0 := hx.box 0; have g1 := hx.box 1; simp only [List.getElem?_toArray, List.getElem?_cons_zero, List.getElem?_cons_succ] at g0 g1; have g2 := HG.out _ hx.un) | (go_at_call 24; refine (within_any _ _ _ _).mono ?_; rintro e w' ⟨rfl, rfl⟩))
      refine (HLV.out _ ((HS.out.ext hx.un (Nat.le_refl _)).more hx.un.size) HFit.out HQ.out hk0 hk1).mono ?_
      rintro e w3 ⟨rfl, hx3⟩
      have g3 := (hx.trans hx3).box 0
      have g4 := (hx.trans hx3).box 1
      simp only [List.getElem?_toArray, List.getElem?_cons_zero, List.getElem?_cons_succ] at g3 g4
      go_wp2_with fail
      go_ret2
      exact RetTakeF.err (HF1.out hz) (hx.trans hx3).un
    · go_enter Try.func9, Try.ntmps9
      go_wp2_with (first | (go_at_call 13; refine (Check_any _ _ _).mono ?_; rintro e w1 ⟨rfl, hx1⟩) | (go_at_call 15; refine (Valid_any cap _ _ l ((HS.out.ext hx1.un (Nat.le_refl _)).more hx1.un.size)).mono ?_; rintro e w2 ⟨rfl, hx2⟩; have hx := hx1.trans hx2; have g0 := hx.box 0; have g1 := hx.box 1; simp only [List.getElem?_toArray, List.getElem?_cons_zero, List.getElem?_cons_succ] at g0 g1; have g2 := HG.out _ hx.un) | (go_at_call 24; refine (within_any _ _ _ _).mono ?_; rintro e w' ⟨rfl, rfl⟩))
      refine (HLV.out _ ((HS.out.ext hx.un (Nat.le_refl _)).more hx.un.size) HFit.out HQ.out hk0 hk1).mono ?_
      rintro e w3 ⟨rfl, hx3⟩
      have g3 := (hx.trans hx3).box 0
      have g4 := (hx.trans hx3).box 1
      simp only [List.getElem?_toArray, List.getElem?_cons_zero, List.getElem?_cons_succ] at g3 g4
      go_wp2_with fail
      refine (Prune_uses _ _ k _ cap _ _ ((HS.out.ext (hx.trans hx3).un (Nat.le_refl _)).more (hx.trans hx3).un.size) (by omega) ht.1 ht.2 hk0 hk1).mono ?_
      rintro e w4 ⟨v, rfl, ho, hx4⟩
      have HO := Lib.hid ho; clear ho
      have g5 := ((hx.trans hx3).trans hx4).box 0
      have g6 := ((hx.trans hx3).trans hx4).box 1
      simp only [List.getElem?_toArray, List.getElem?_cons_zero, List.getElem?_cons_succ] at g5 g6
      go_wp2
      go_ret2
      exact RetTakeF.own (HF2.out hz (by simp)) (by simp) HO.out (((hx.trans hx3)).un.trans hx4) ((hx.trans hx3)).un.size
    · go_enter Try.func9, Try.ntmps9
      go_wp2_with (first | (go_at_call 13; refine (Check_any _ _ _).mono ?_; rintro e w1 ⟨rfl, hx1⟩) | (go_at_call 15; refine (Valid_any cap _ _ l ((HS.out.ext hx1.un (Nat.le_refl _)).more hx1.un.size)).mono ?_; rintro e w2 ⟨rfl, hx2⟩; have hx := hx1.trans hx2; have g0 := hx.box 0; have g1 := hx.box 1; simp only [List.getElem?_toArray, List.getElem?_cons_zero, List.getElem?_cons_succ] at g0 g1; have g2 := HG.out _ hx.un) | (go_at_call 24; refine (within_any _ _ _ _).mono ?_; rintro e w' ⟨rfl, rfl⟩))
      refine (HLV.out _ ((HS.out.ext hx.un (Nat.le_refl _)).more hx.un.size) HFit.out HQ.out hk0 hk1).mono ?_
      rintro e w3 ⟨rfl, hx3⟩
      have g3 := (hx.trans hx3).box 0
      have g4 := (hx.trans hx3).box 1
      simp only [List.getElem?_toArray, List.getElem?_cons_zero, List.getElem?_cons_succ] at g3 g4
      go_wp2_with fail
      refine (Prune_uses _ _ k _ cap _ _ ((HS.out.ext (hx.trans hx3).un (Nat.le_refl _)).more (hx.trans hx3).un.size) (by omega) ht.1 ht.2 hk0 hk1).mono ?_
      rintro e w4 ⟨v, rfl, ho, hx4⟩
      have HO := Lib.hid ho; clear ho
      have g5 := ((hx.trans hx3).trans hx4).box 0
      have g6 := ((hx.trans hx3).trans hx4).box 1
      simp only [List.getElem?_toArray, List.getElem?_cons_zero, List.getElem?_cons_succ] at g5 g6
      go_wp2
      all_goals
        go_ret2
        exact RetTakeF.own (HF2.out hz (by simp)) (by simp) HO.out (((hx.trans hx3)).un.trans hx4) ((hx.trans hx3)).un.size
end Go.Proofs.Ythjmglbjlfgmaaa
