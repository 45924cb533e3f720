/- Contract of quota.Take: a take that adds. -/
import Derived.Test.YthjmglbjlfgmaaaQp
namespace Go.Proofs.Ythjmglbjlfgmaaa
open Go Go.RowKit

theorem not_late {k : Int} {l : List Use} (h : late k l = false) : ∀ u, u ∈ l → u.tick ≤ k := fun u hu => by
  unfold late at h
  rw [List.any_eq_false] at h
  have := h u hu
  simp at this
  omega
theorem spot_le (s k : Int) (l : List Use) : spot s k l ≤ l.length := List.findIdx_le_length
theorem hit_at {s k : Int} {l : List Use} (h : hitU s k l = true) : ∃ x, l[spot s k l]? = some x := by
  unfold hitU at h
  split at h
  · exact ⟨_, by assumption⟩
  · cases h
theorem add_hit {s k n : Int} {l : List Use} (hk : ∀ u, u ∈ l → u.tick ≤ k) (h : hitU s k l = true) : l.modify (spot s k l) (raise n) = addU s k n l := by
  have := prog_add s k n l hk
  rw [if_pos h] at this
  exact this
theorem add_miss {s k n : Int} {l : List Use} (hk : ∀ u, u ∈ l → u.tick ≤ k) (h : hitU s k l = false) : (l.take (spot s k l) ++ newU s k 0 :: l.drop (spot s k l)).modify (spot s k l) (raise n) = addU s k n l := by
  have := prog_add s k n l hk
  rw [if_neg (by rw [h]; simp)] at this
  exact this
theorem ins_at (l : List Use) (i : Nat) (hi : i ≤ l.length) (u : Use) : (l.take i ++ u :: l.drop i)[i]? = some u := by
  rw [List.getElem?_append_right (by simp; omega), List.length_take, Nat.min_eq_left hi, Nat.sub_self]; rfl
theorem own_pos {w : World} {base n k : Nat} {e : TypeId} {v : Value} {zs : List Value} (h : w.ownsRow base e k v n zs) (hn : 0 < n) : ∃ g c, v = .slice (some ⟨g, 0, none⟩) n c ∧ n ≤ c ∧ c ≤ maxLen ∧ g < w.heap.size ∧ base ≤ g := by
  rcases h.2 with ⟨_, h0⟩ | ⟨g, cap, cur, rfl, hg, hgg, hle, hmax, _⟩
  · omega
  · exact ⟨g, cap, rfl, hle, hmax, (Array.getElem?_eq_some_iff.1 hgg).1, hg⟩

set_option maxRecDepth 100000 in
set_option maxHeartbeats 2000000 in
theorem Take_add (t c s k n : Int) (cap : Nat) (A : Option Addr) (w : World) (l : List Use) (hs : Sl w w.heap.size 3 A cap (l.map Use.row)) (h : Ok t c s k n l) (hl : late k l = false) (hz : ¬ leftF t c s k l < n) (ht0 : ¬ t = 0) (hn0 : ¬ n = 0) :
    Calls Try.prog 9 #[.slice A l.length cap, .agg #[.int .i64 t, .int .i64 c], .int .i64 s, .int .i64 k, .int .i64 n] w (RetTakeF (takeF t c s k n l) w) := by
  have hm := mixed
  have hf := vld_fits h.vld
  have hq := h.q
  have hb := h.bounds
  have ht : 0 ≤ t ∧ t ≤ 4000 := by rcases hq with h | h <;> omega
  have hln := hf.1
  have HF := Lib.hid (takeF_add h hl hz (by omega))
  have hlast : ∀ x, l[l.length - 1]? = some x → x.tick ≤ k := fun x hx => h.last hl hx
  have hsort := ((vldB_iff l).1 h.vld).2.2
  have HP := Lib.hid (pruned_sorted (t := t) (c := c) (k := k) hsort)
  have HK := Lib.hid (fun u (hu : u ∈ pruned t c k l) => not_late hl u (List.mem_filter.1 hu).1)
  have HB := Lib.hid (fun u (hu : u ∈ pruned t c k l) => hf.2 u (List.mem_filter.1 hu).1)
  have hpl := pruned_len' t c k l
  obtain ⟨c0, c1, c2, c3, c4⟩ := h
  have HFit := Lib.hid hf; have HQ := Lib.hid hq; have HS := Lib.hid hs
  have HLV := Lib.hid (Left_any t c s k cap A · l)
  generalize leftF t c s k l = lv at *
  obtain ⟨hb1, ⟨hk0, hk1⟩, hb3⟩ := hb
  obtain ⟨F, HG, HD⟩ : ∃ F : World → Prop, Hid (∀ w2, Ext w w2 → F w2) ∧ ((l.length = 0 ∧ F = fun _ => True) ∨ ∃ (x : Use) (b' off : Nat), 0 < l.length ∧ x.tick ≤ k ∧ A = some ⟨b', off, none⟩ ∧ F = fun w2 => w2.cell? ⟨b', off + (l.length - 1) * 3, none⟩ = some (.int .i64 x.tick)) := by
    rcases Nat.eq_zero_or_pos l.length with h0 | hpos
    · exact ⟨fun _ => True, fun _ _ => trivial, .inl ⟨h0, rfl⟩⟩
    · obtain ⟨x, hxm⟩ : ∃ x, l[l.length - 1]? = some x := ⟨_, List.getElem?_eq_getElem (by omega)⟩
      obtain ⟨b', off, rfl, hbl, h0, h1, h2⟩ := hs.at3 (i := l.length - 1) (by rw [List.getElem?_map, hxm]; rfl)
      exact ⟨_, fun w2 hx => (hx.cell (p := ⟨b', off + (l.length - 1) * 3, none⟩) hbl).trans h0, .inr ⟨x, b', off, hpos, hlast x hxm, rfl, rfl⟩⟩
  clear hlast hl hs hf hq hsort
  have HPU := Lib.hid (Prune_uses t c k A cap l)
  generalize hPl : pruned t c k l = P at *
  clear hPl
  rcases HD with ⟨h0, rfl⟩ | ⟨x, b', off, hpos, hxk, rfl, rfl⟩
  · have hd0 : ¬ 0 < l.length := by omega
    clear h0
    go_enter Try.func9, Try.ntmps9
    go_wp2_with (first | (go_at_call 13; refine (Check_any _ _ _).mono ?_; rintro e w1 ⟨rfl, hx1⟩) | (go_at_call 15; refine (Valid_any cap _ _ l ((HS.out.ext hx1.un (Nat.le_refl _)).more hx1.un.size)).mono ?_; rintro e w2 ⟨rfl, hx2⟩; have hx := hx1.trans hx2; have g0 := hx.box 0; have g1 := hx.box 1; simp only [List.getElem?_toArray, List.getElem?_cons_zero, List.getElem?_cons_succ] at g0 g1; have g2 := HG.out _ hx.un) | (go_at_call 24; refine (within_any _ _ _ _).mono ?_; rintro e w' ⟨rfl, rfl⟩))
    refine (HLV.out _ ((HS.out.ext hx.un (Nat.le_refl _)).more hx.un.size) HFit.out HQ.out hk0 hk1).mono ?_
    rintro e w3 ⟨rfl, hx3⟩
    have g3 := (hx.trans hx3).box 0
    have g4 := (hx.trans hx3).box 1
    simp only [List.getElem?_toArray, List.getElem?_cons_zero, List.getElem?_cons_succ] at g3 g4
    go_wp2_with fail
    refine (HPU.out _ ((HS.out.ext (hx.trans hx3).un (Nat.le_refl _)).more (hx.trans hx3).un.size) (by omega) ht.1 ht.2 hk0 hk1).mono ?_
    rintro e w4 ⟨v, rfl, ho, hx4⟩
    simp only [List.length_map] at ho
    have hz4 := hx4.size
    obtain ⟨A', c', rfl, hnc', hcm'⟩ := own_form ho
    have hx04 := (hx.trans hx3).un.trans hx4
    have HO := Lib.hid ho; clear ho
    have g5 := ((hx.trans hx3).trans hx4).box 0
    have g6 := ((hx.trans hx3).trans hx4).box 1
    simp only [List.getElem?_toArray, List.getElem?_cons_zero, List.getElem?_cons_succ] at g5 g6
    go_wp2_with fail
    refine (BS_uses A' c' P _ (Sl.of_own (HO.out.alloc _) (rws_map P) (by simp)) s k (by omega) HP.out).mono ?_
    rintro e w5 ⟨rfl, hx5⟩
    have b0 := hx5.box 0
    have b1 := hx5.box 1
    have b2 := hx5.box 2
    simp only [List.getElem?_toArray, List.getElem?_cons_zero, List.getElem?_cons_succ] at b0 b1 b2
    have hx05 := hx04.trans hx5.un
    have HO5 := Lib.hid (own_ext (HO.out.alloc _) hx5)
    have hsl := spot_le s k P
    cases hh : hitU s k P with
    | true =>
      obtain ⟨u, hu⟩ := hit_at hh
      have hfin := add_hit (n := n) HK.out hh
      generalize spot s k P = i at *
      have hui := (List.getElem?_eq_some_iff.1 hu).1
      exact absurd hui (by omega)
    | false =>
      have hfin := add_miss (n := n) HK.out hh
      generalize spot s k P = i at *
      have hins := ins_at P i hsl (newU s k 0)
      have hz5 := hx5.size1
      have HFN := Lib.hid hfin; have HU := Lib.hid hins
      clear hfin hins hh
      go_wp2_with fail
      refine (Insert_uses _ _ P _ (HO5.out.alloc _) (by omega) (by have := hx5.size; have := hx4.size; simp; omega) i hsl (newU s k 0) w5.heap.size ?_ (heap_alloc_new w5 _)).mono ?_
      · intro hb
        have := (HO5.out.lt _ hb).2
        omega
      rintro e w6 ⟨v6, rfl, ho6, hg6⟩
      simp only [List.length_map] at ho6
      have hl6 : (P.take i ++ newU s k 0 :: P.drop i).length = P.length + 1 := by simp; omega
      rw [hl6] at ho6
      obtain ⟨g, c6, rfl, hc61, hc62, hgl, hbg⟩ := own_pos ho6 (by omega)
      have hcell := ho6.cellAt (i * 3 + 2) (by omega)
      have hflat := flatten_at ((P.take i ++ newU s k 0 :: P.drop i).map Use.row) (rws_map _).len i (newU s k 0).row (by rw [List.getElem?_map, HU.out]; rfl) 2 (.int .i64 0) rfl
      rw [hflat] at hcell
      have hfro := ho6.frozenAt (i * 3 + 2)
      have hz3 := (hx.trans hx3).un.size
      have hx06 := (hx05.alloc _).own (HO5.out.alloc _) hg6 (by omega)
      have h6 := (ho6.stored (i * 3 + 2) (.int .i64 n)).1
      rw [show (Value.int .i64 n) = .int .i64 ((newU s k 0).count + n) by simp [newU], set_third _ i (newU s k 0) n HU.out, HFN.out, show (newU s k 0).count + n = n by simp [newU]] at h6
      have HO6 := Lib.hid h6
      have HNN := Lib.hid (show P.length + 1 = (addU s k n P).length by rw [← HFN.out, List.length_modify, hl6])
      clear h6 hflat ho6 hg6 hl6
      go_wp2
      go_ret2
      exact RetTakeF.own HF.out HNN.out HO6.out (hx06.setCell (by simp; omega) _) (by first | omega | (simp; omega))
  · go_enter Try.func9, Try.ntmps9
    go_wp2_with (first | (go_at_call 13; refine (Check_any _ _ _).mono ?_; rintro e w1 ⟨rfl, hx1⟩) | (go_at_call 15; refine (Valid_any cap _ _ l ((HS.out.ext hx1.un (Nat.le_refl _)).more hx1.un.size)).mono ?_; rintro e w2 ⟨rfl, hx2⟩; have hx := hx1.trans hx2; have g0 := hx.box 0; have g1 := hx.box 1; simp only [List.getElem?_toArray, List.getElem?_cons_zero, List.getElem?_cons_succ] at g0 g1; have g2 := HG.out _ hx.un) | (go_at_call 24; refine (within_any _ _ _ _).mono ?_; rintro e w' ⟨rfl, rfl⟩))
    refine (HLV.out _ ((HS.out.ext hx.un (Nat.le_refl _)).more hx.un.size) HFit.out HQ.out hk0 hk1).mono ?_
    rintro e w3 ⟨rfl, hx3⟩
    have g3 := (hx.trans hx3).box 0
    have g4 := (hx.trans hx3).box 1
    simp only [List.getElem?_toArray, List.getElem?_cons_zero, List.getElem?_cons_succ] at g3 g4
    go_wp2_with fail
    refine (HPU.out _ ((HS.out.ext (hx.trans hx3).un (Nat.le_refl _)).more (hx.trans hx3).un.size) (by omega) ht.1 ht.2 hk0 hk1).mono ?_
    rintro e w4 ⟨v, rfl, ho, hx4⟩
    simp only [List.length_map] at ho
    have hz4 := hx4.size
    obtain ⟨A', c', rfl, hnc', hcm'⟩ := own_form ho
    have hx04 := (hx.trans hx3).un.trans hx4
    have HO := Lib.hid ho; clear ho
    have g5 := ((hx.trans hx3).trans hx4).box 0
    have g6 := ((hx.trans hx3).trans hx4).box 1
    simp only [List.getElem?_toArray, List.getElem?_cons_zero, List.getElem?_cons_succ] at g5 g6
    go_wp2_with fail
    refine (BS_uses A' c' P _ (Sl.of_own (HO.out.alloc _) (rws_map P) (by simp)) s k (by omega) HP.out).mono ?_
    rintro e w5 ⟨rfl, hx5⟩
    have b0 := hx5.box 0
    have b1 := hx5.box 1
    have b2 := hx5.box 2
    simp only [List.getElem?_toArray, List.getElem?_cons_zero, List.getElem?_cons_succ] at b0 b1 b2
    have hx05 := hx04.trans hx5.un
    have HO5 := Lib.hid (own_ext (HO.out.alloc _) hx5)
    have hsl := spot_le s k P
    cases hh : hitU s k P with
    | true =>
      obtain ⟨u, hu⟩ := hit_at hh
      have hfin := add_hit (n := n) HK.out hh
      generalize spot s k P = i at *
      have hui := (List.getElem?_eq_some_iff.1 hu).1
      obtain ⟨g, c6, hv, _, _, hgl, hbg⟩ := own_pos HO5.out (by omega)
      injection hv with e1 _ e2
      subst e1 e2
      have hub := HB.out u (List.mem_of_getElem? hu)
      have hcell := HO5.out.cellAt (i * 3 + 2) (by omega)
      have hflat := flatten_at (P.map Use.row) (rws_map P).len i u.row (by rw [List.getElem?_map, hu]; rfl) 2 (.int .i64 u.count) rfl
      rw [hflat] at hcell
      have hfro := HO5.out.frozenAt (i * 3 + 2)
      have HFN := Lib.hid hfin; have HU := Lib.hid hu
      have hz3 := (hx.trans hx3).un.size
      clear hfin hu hflat hh
      go_wp2
      go_ret2
      have h6 := (HO5.out.stored (i * 3 + 2) (.int .i64 (u.count + n))).1
      rw [set_third P i u n HU.out] at h6
      exact RetTakeF.own (l := P.modify i (raise n)) (n := P.length) (by rw [HF.out, HFN.out]) (by simp) h6 (hx05.setCell (by simp; omega) _) (by first | omega | (simp; omega))
    | false =>
      have hfin := add_miss (n := n) HK.out hh
      generalize spot s k P = i at *
      have hins := ins_at P i hsl (newU s k 0)
      have hz5 := hx5.size1
      have HFN := Lib.hid hfin; have HU := Lib.hid hins
      clear hfin hins hh
      go_wp2_with fail
      refine (Insert_uses _ _ P _ (HO5.out.alloc _) (by omega) (by have := hx5.size; have := hx4.size; simp; omega) i hsl (newU s k 0) w5.heap.size ?_ (heap_alloc_new w5 _)).mono ?_
      · intro hb
        have := (HO5.out.lt _ hb).2
        omega
      rintro e w6 ⟨v6, rfl, ho6, hg6⟩
      simp only [List.length_map] at ho6
      have hl6 : (P.take i ++ newU s k 0 :: P.drop i).length = P.length + 1 := by simp; omega
      rw [hl6] at ho6
      obtain ⟨g, c6, rfl, hc61, hc62, hgl, hbg⟩ := own_pos ho6 (by omega)
      have hcell := ho6.cellAt (i * 3 + 2) (by omega)
      have hflat := flatten_at ((P.take i ++ newU s k 0 :: P.drop i).map Use.row) (rws_map _).len i (newU s k 0).row (by rw [List.getElem?_map, HU.out]; rfl) 2 (.int .i64 0) rfl
      rw [hflat] at hcell
      have hfro := ho6.frozenAt (i * 3 + 2)
      have hz3 := (hx.trans hx3).un.size
      have hx06 := (hx05.alloc _).own (HO5.out.alloc _) hg6 (by omega)
      have h6 := (ho6.stored (i * 3 + 2) (.int .i64 n)).1
      rw [show (Value.int .i64 n) = .int .i64 ((newU s k 0).count + n) by simp [newU], set_third _ i (newU s k 0) n HU.out, HFN.out, show (newU s k 0).count + n = n by simp [newU]] at h6
      have HO6 := Lib.hid h6
      have HNN := Lib.hid (show P.length + 1 = (addU s k n P).length by rw [← HFN.out, List.length_modify, hl6])
      clear h6 hflat ho6 hg6 hl6
      go_wp2
      go_ret2
      exact RetTakeF.own HF.out HNN.out HO6.out (hx06.setCell (by simp; omega) _) (by first | omega | (simp; omega))
end Go.Proofs.Ythjmglbjlfgmaaa
