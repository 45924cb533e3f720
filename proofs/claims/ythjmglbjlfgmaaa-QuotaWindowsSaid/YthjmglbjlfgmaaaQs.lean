/- Contract of the reference's Take. -/
import Derived.Test.YthjmglbjlfgmaaaQo
namespace Go.Proofs.Ythjmglbjlfgmaaa
open Go Go.RowKit

set_option maxRecDepth 100000 in
set_option maxHeartbeats 2000000 in
theorem refTake_arg (t c s k n : Int) (cap : Nat) (A : Option Addr) (w : World) (l : List Use) (hs : Sl w w.heap.size 3 A cap (l.map Use.row)) (h : ¬ (checkB t c = 0 ∧ vldB l = true ∧ inB s 1 8 = true ∧ inB k 0 4000 = true ∧ inB n 0 1073741824 = true)) :
    Calls Try.prog 10 #[.slice A l.length cap, .agg #[.int .i64 t, .int .i64 c], .int .i64 s, .int .i64 k, .int .i64 n] w (RetTake (takeF t c s k n l) w) := by
  have HS := Lib.hid hs; clear hs
  have HF := Lib.hid (takeF_arg h)
  rcases or3 (checkB t c != 0) (vldB l) true with c0 | ⟨c0, c1⟩ | ⟨_, _, c2⟩ | ⟨c0, c1, _⟩
  · clear h
    go_enter Try.func10, Try.ntmps10
    go_wp2_with (first | (go_at_call 11; refine (refValid_any cap A _ l ((HS.out.alloc (Nat.le_refl _) _).more (by simp))).mono ?_; rintro e w1 ⟨rfl, hx1⟩; have g0 := hx1.box 0; have g1 := hx1.box 1; simp only [List.getElem?_toArray, List.getElem?_cons_zero, List.getElem?_cons_succ] at g0 g1) | (go_at_call 14; refine (refCheck_any _ _ _).mono ?_; rintro e w2 ⟨rfl, hx2⟩))
    go_ret2
    exact RetTake.err HF.out (hx1.trans hx2).un
  · clear h
    go_enter Try.func10, Try.ntmps10
    go_wp2_with (first | (go_at_call 11; refine (refValid_any cap A _ l ((HS.out.alloc (Nat.le_refl _) _).more (by simp))).mono ?_; rintro e w1 ⟨rfl, hx1⟩; have g0 := hx1.box 0; have g1 := hx1.box 1; simp only [List.getElem?_toArray, List.getElem?_cons_zero, List.getElem?_cons_succ] at g0 g1) | (go_at_call 14; refine (refCheck_any _ _ _).mono ?_; rintro e w2 ⟨rfl, hx2⟩))
    go_ret2
    exact RetTake.err HF.out (hx1.trans hx2).un
  · cases c2
  · have hr : ¬ ((1 ≤ s ∧ s ≤ 8) ∧ (0 ≤ k ∧ k ≤ 4000) ∧ 0 ≤ n ∧ n ≤ 1073741824) := fun hh => h ⟨by simpa using c0, c1, by simp [inB]; omega, by simp [inB]; omega, by simp [inB]; omega⟩
    clear h
    go_enter Try.func10, Try.ntmps10
    go_wp2_with (first | (go_at_call 11; refine (refValid_any cap A _ l ((HS.out.alloc (Nat.le_refl _) _).more (by simp))).mono ?_; rintro e w1 ⟨rfl, hx1⟩; have g0 := hx1.box 0; have g1 := hx1.box 1; simp only [List.getElem?_toArray, List.getElem?_cons_zero, List.getElem?_cons_succ] at g0 g1) | (go_at_call 14; refine (refCheck_any _ _ _).mono ?_; rintro e w2 ⟨rfl, hx2⟩))
    all_goals (go_ret2; exact RetTake.err HF.out (hx1.trans hx2).un)

theorem late_at {k : Int} {l : List Use} {j : Nat} {x : Use} (hx : l[j]? = some x) (h : k < x.tick) : late k l = true := by
  unfold late
  rw [List.any_eq_true]
  exact ⟨x, List.mem_of_getElem? hx, by simpa using h⟩
theorem late_no {k : Int} {l : List Use} (h : ∀ (i : Nat) (x : Use), i < l.length → l[i]? = some x → x.tick ≤ k) : late k l = false := by
  unfold late
  rw [List.any_eq_false]
  intro x hx
  obtain ⟨i, hi⟩ := List.getElem?_of_mem hx
  have := h i x (List.getElem?_eq_some_iff.1 hi).1 hi
  simp; omega
theorem foldT (s k n : Int) (l : List Use) (j : Nat) (x : Use) (h : l[j]? = some x) : (l.take (j + 1)).foldl (stepU s k n) (false, []) = stepU s k n ((l.take j).foldl (stepU s k n) (false, [])) x := by
  obtain ⟨hi, rfl⟩ := List.getElem?_eq_some_iff.1 h
  rw [List.take_succ_eq_append_getElem hi, List.foldl_append]; rfl
theorem step_len (s k n : Int) : ∀ (l : List Use) (st : Bool × List Use), (l.foldl (stepU s k n) st).2.length ≤ st.2.length + 2 * l.length
  | [], st => by simp
  | x :: r, st => by
    have h1 := step_len s k n r (stepU s k n st x)
    have h2 : (stepU s k n st x).2.length ≤ st.2.length + 2 := by
      unfold stepU
      split
      · simp; split <;> simp
      · simp
    simp only [List.foldl_cons, List.length_cons]
    omega

theorem own_snoc {w : World} {base : Nat} {e : TypeId} {v : Value} {acc : List Use} {u : Use} (h : w.ownsRow base e 3 v (acc.length + 1) ((acc.map Use.row).flatten ++ u.row)) : w.ownsRow base e 3 v (acc ++ [u]).length ((acc ++ [u]).map Use.row).flatten := by
  simpa using h
theorem news_two (w : World) (o1 : Obj) (u : Use) : ∀ (j : Nat) (v : Value), u.row[j]? = some v → ((w.alloc o1).alloc (.cells #[.int .i64 u.tick, .int .i64 u.site, .int .i64 u.count] 40)).cell? ((⟨w.heap.size + 1, 0, none⟩ : Addr).add j) = some v := fun j v h => by
  have := news_new (w.alloc o1) u.row 40 j v h
  simpa [Use.row] using this
theorem use_one (u : Use) : ∀ v, v ∈ u.row → v.oneCell' = true := row_one
/-- Is the step's test met. -/
theorem step_no {s k n : Int} {d : Bool} {acc : List Use} {x : Use} (h : ¬ (d = false ∧ x.tick = k ∧ s ≤ x.site)) : stepU s k n (d, acc) x = (d, acc ++ [x]) := by unfold stepU; rw [if_neg h]
theorem step_same {s k n : Int} {acc : List Use} {x : Use} (h : x.tick = k) (hs : x.site = s) : stepU s k n (false, acc) x = (true, acc ++ [⟨x.tick, x.site, x.count + n⟩]) := by unfold stepU; rw [if_pos ⟨rfl, h, by omega⟩, if_pos hs]
theorem step_new {s k n : Int} {acc : List Use} {x : Use} (h : x.tick = k) (hs : s ≤ x.site) (hne : ¬ x.site = s) : stepU s k n (false, acc) x = (true, acc ++ [newU s k n] ++ [x]) := by unfold stepU; rw [if_pos ⟨rfl, h, hs⟩, if_neg hne]; simp

set_option maxRecDepth 100000 in
set_option maxHeartbeats 4000000 in
theorem refTake_ok (t c s k n : Int) (cap : Nat) (A : Option Addr) (w : World) (l : List Use) (hs : Sl w w.heap.size 3 A cap (l.map Use.row)) (h : Ok t c s k n l) :
    Calls Try.prog 10 #[.slice A l.length cap, .agg #[.int .i64 t, .int .i64 c], .int .i64 s, .int .i64 k, .int .i64 n] w (RetTake (takeF t c s k n l) w) := by
  have HOK := Lib.hid h
  have hf := vld_fits h.vld
  have hq := h.q
  obtain ⟨⟨hs0, hs1⟩, ⟨hk0, hk1⟩, hn0, hn1⟩ := h.bounds
  have ht : 0 ≤ t ∧ t ≤ 4000 := by rcases hq with h | h <;> omega
  have hln := hf.1
  have hpl := pruned_len' t c k l
  have HPB := Lib.hid (fun u (hu : u ∈ pruned t c k l) => hf.2 u (List.mem_filter.1 hu).1)
  obtain ⟨i0, hi, hz0, hz1, hz2⟩ := info_parts infoUse
  have HI := Lib.hid hi; have HZ := Lib.hid hz0; have HZ1 := Lib.hid hz1; have HZ2 := Lib.hid hz2; clear hi hz0 hz1 hz2
  obtain ⟨c0, c1, _, _, _⟩ := h
  have HFit := Lib.hid hf; have HQ := Lib.hid hq; have HS := Lib.hid hs
  have HLV := Lib.hid (refLeft_any t c s k cap A · l)
  have HPU := Lib.hid (refPrune_any t c k cap A · l)
  have HF1 := Lib.hid (fun hl => takeF_late (t := t) (c := c) (s := s) (k := k) (n := n) (l := l) HOK.out hl)
  have HF2 := Lib.hid (fun hl => takeF_quota (t := t) (c := c) (s := s) (k := k) (n := n) (l := l) HOK.out hl)
  have HF3 := Lib.hid (fun hl => takeF_zero (t := t) (c := c) (s := s) (k := k) (n := n) (l := l) HOK.out hl)
  have HF4 := Lib.hid (fun hl => takeF_add (t := t) (c := c) (s := s) (k := k) (n := n) (l := l) HOK.out hl)
  generalize leftF t c s k l = lv at *
  generalize pruned t c k l = P at *
  clear hf hq hs
  go_enter Try.func10, Try.ntmps10
  go_wp2_with (first | (go_at_call 11; refine (refValid_any cap A _ l ((HS.out.alloc (Nat.le_refl _) _).more (by simp))).mono ?_; rintro e w1 ⟨rfl, hx1⟩; have g0 := hx1.box 0; have g1 := hx1.box 1; simp only [List.getElem?_toArray, List.getElem?_cons_zero, List.getElem?_cons_succ] at g0 g1) | (go_at_call 14; refine (refCheck_any _ _ _).mono ?_; rintro e w2 ⟨rfl, hx2⟩))
  have hx := hx1.trans hx2
  have HX := Lib.hid hx
  clear hx1 hx2 g0 g1 hx
  go_loopw [13] (fun i wr => ∃ j : Nat, j ≤ l.length ∧ i = .int .i64 j ∧ (∀ (i : Nat) (x : Use), i < j → l[i]? = some x → x.tick ≤ k) ∧ Ext (w.alloc (.cells #[.int .i64 t, .int .i64 c] 24)) wr) (fun i _ => l.length - (intOf i).toNat)
  case atStart => exact ⟨0, Nat.zero_le _, rfl, fun i x hi => by omega, HX.out⟩
  case round =>
    obtain ⟨j, hj, rfl, hg, hx⟩ := hrel
    have HG := Lib.hid hg; clear hg
    by_cases hlt : j < l.length
    · obtain ⟨x, hxj⟩ : ∃ x, l[j]? = some x := ⟨_, List.getElem?_eq_getElem hlt⟩
      obtain ⟨b', off, rfl, hbl, h0, h1, h2⟩ := (HS.out.ext hx.un (Nat.le_refl _)).at3 (i := j) (by rw [List.getElem?_map, hxj]; rfl)
      have HXJ := Lib.hid hxj; clear hxj
      go_wp2
      · go_ret2
        exact RetTake.err (HF1.out (late_at HXJ.out (by assumption))) hx.un
      · have hle : x.tick ≤ k := by assumption
        go_roundw
        case rel =>
          refine ⟨j + 1, by omega, by go_num, fun i y hi hy => ?_, hx⟩
          rcases Nat.lt_succ_iff_lt_or_eq.1 hi with h1 | rfl
          · exact HG.out i y h1 hy
          · rw [HXJ.out] at hy; injection hy with e; rw [← e]; exact hle
        case measure => simp [intOf]; omega
    · obtain rfl : j = l.length := by omega
      have hnl := late_no HG.out
      have HF2 := Lib.hid (HF2.out hnl); have HF3 := Lib.hid (HF3.out hnl); have HF4 := Lib.hid (HF4.out hnl)
      have q0 := hx.box 0
      have q1 := hx.box 1
      simp only [List.getElem?_toArray, List.getElem?_cons_zero, List.getElem?_cons_succ] at q0 q1
      clear hnl hlt hj
      go_wp2_with fail
      refine (HLV.out _ ((HS.out.ext hx.un (Nat.le_refl _)).more hx.un.size) HFit.out HQ.out hk0 hk1).mono ?_
      rintro e w3 ⟨rfl, hx3⟩
      have g3 := (hx.trans hx3).box 0
      have g4 := (hx.trans hx3).box 1
      simp only [List.getElem?_toArray, List.getElem?_cons_zero, List.getElem?_cons_succ] at g3 g4
      by_cases hz : lv < n
      · go_wp2
        go_ret2
        exact RetTake.err (HF2.out hz) (hx.trans hx3).un
      · go_wp2_with fail
        refine (HPU.out _ ((HS.out.ext (hx.trans hx3).un (Nat.le_refl _)).more (hx.trans hx3).un.size) (by omega) HQ.out hk0 hk1).mono ?_
        rintro e w4 ⟨v, rfl, ho, hx4⟩
        simp only [List.length_map] at ho
        have hx04 := (hx.trans hx3).trans hx4
        have g5 := hx04.box 0
        simp only [List.getElem?_toArray, List.getElem?_cons_zero] at g5
        by_cases ht0 : t = 0
        · have hb : (t == 0) = true := by simp [ht0]
          have HO := Lib.hid ho
          have HE := Lib.hid (HF3.out hz (.inl ht0))
          clear ht0 ho
          go_wp2
          go_ret2
          exact RetTake.own HE.out rfl HO.out hx04.un
        · by_cases hn0' : n = 0
          · have hb : (t == 0) = false := by simp [ht0]
            have hb2 : (n == 0) = true := by simp [hn0']
            have HO := Lib.hid ho
            have HE := Lib.hid (HF3.out hz (.inr hn0'))
            clear ht0 hn0' ho
            go_wp2
            go_ret2
            exact RetTake.own HE.out rfl HO.out hx04.un
          · have hb : (t == 0) = false := by simp [ht0]
            have hb2 : (n == 0) = false := by simp [hn0']
            have HE := Lib.hid (HF4.out hz (by omega))
            have HO := Lib.hid ho
            clear ht0 hn0' ho
            obtain ⟨A', c', rfl, hnc', hcm'⟩ := own_form HO.out
            have HSP := Lib.hid (Sl.of_own HO.out (rws_map P) (by simp))
            have hln4 : P.length ≤ 10000 := by omega
            go_wp2
            go_loopw [15, 16, 17] (fun v d i wr => ∃ j : Nat, j ≤ P.length ∧ i = .int .i64 j ∧ d = .bool ((P.take j).foldl (stepU s k n) (false, [])).1 ∧ wr.ownsRow w4.heap.size 40 3 v ((P.take j).foldl (stepU s k n) (false, [])).2.length (((P.take j).foldl (stepU s k n) (false, [])).2.map Use.row).flatten ∧ Ext w4 wr) (fun _ _ i _ => P.length - (intOf i).toNat)
            case atStart => exact ⟨0, Nat.zero_le _, rfl, rfl, World.ownsRow_nil _ _ _ _, Ext.refl _⟩
            case round =>
              obtain ⟨j, hj, rfl, rfl, hO, hy⟩ := hrel
              have hsl := step_len s k n (P.take j) (false, [])
              have hsl2 : (P.take j).length ≤ P.length := by simp; omega
              simp only [List.length_nil, Nat.zero_add] at hsl
              have hz := hy.size
              by_cases hlt : j < P.length
              · obtain ⟨x, hxj⟩ : ∃ x, P[j]? = some x := ⟨_, List.getElem?_eq_getElem hlt⟩
                obtain ⟨b', off, rfl, hbl, h0, h1, h2⟩ := (HSP.out.ext hy (Nat.le_refl _)).at3 (i := j) (by rw [List.getElem?_map, hxj]; rfl)
                have hxb := HPB.out x (List.mem_of_getElem? hxj)
                have HT := Lib.hid (foldT s k n P j x hxj); clear hxj
                generalize hst : (P.take j).foldl (stepU s k n) (false, []) = st at *
                clear hst
                obtain ⟨d, acc⟩ := st
                simp only at hO hsl ⊢
                have HOa := Lib.hid (fun o1 o2 : Obj => (hO.alloc o1).alloc o2)
                have hlt0 := hO.lt
                have HLT := Lib.hid hlt0; clear hlt0
                have HL1 := Lib.hid (show acc.length + 1 ≤ maxLen by unfold maxLen; omega)
                have HL2 := Lib.hid (show (acc.length + 1) * 24 ≤ 140737488355328 by omega)
                have HL3 := Lib.hid (fun o1 o2 : Obj => show w4.heap.size ≤ ((wr.alloc o1).alloc o2).heap.size by simp; omega)
                have NWx := Lib.hid (fun o1 : Obj => news_two wr o1 x)
                have NWa := Lib.hid (fun o1 : Obj => news_two wr o1 ⟨x.tick, x.site, x.count + n⟩)
                have NWn := Lib.hid (fun o1 : Obj => news_two wr o1 (newU s k n))
                clear hO
                by_cases hc : d = false ∧ x.tick = k ∧ s ≤ x.site
                · obtain ⟨rfl, e1, e2⟩ := hc
                  have hk : (x.tick == k) = true := by simp [e1]
                  by_cases e3 : x.site = s
                  · have hk2 : (x.site == s) = true := by simp [e3]
                    have HN := Lib.hid (step_same (n := n) (acc := acc) e1 e3)
                    clear e1 e3
                    go_wp2_with (at_builtin; refine wpList_append_own _ rfl (.tmp 124) (.tmp 126) 22 rfl w4.heap.size 40 i0 (.agg #[.int .i64 0, .int .i64 0, .int .i64 0]) 3 24 Try.underlying22 HI.out HZ.out HZ1.out HZ2.out rfl (by decide) _ acc.length _ rfl (HOa.out _ _) ⟨wr.heap.size + 1, 0, none⟩ 1 1 (Use.row ⟨x.tick, x.site, x.count + n⟩) rfl rfl (NWa.out _) row_one HL1.out HL2.out (HL3.out _ _) ?_)
                    intro v' w5 g1 g2 _
                    have HO5 := Lib.hid g1; have HG5 := Lib.hid g2; clear g1 g2
                    go_wp2
                    go_roundw
                    case rel => exact ⟨j + 1, by omega, by go_num, by rw [HT.out, HN.out], by rw [HT.out, HN.out]; exact own_snoc HO5.out, ((hy.alloc _).alloc _).own (HOa.out _ _) HG5.out (Nat.le_refl _)⟩
                    case measure => simp [intOf]; omega
                  · have hk2 : (x.site == s) = false := by simp [e3]
                    have HN := Lib.hid (step_new (n := n) (acc := acc) e1 e2 e3)
                    clear e1 e3
                    go_wp2_with (at_builtin; refine wpList_append_own _ rfl (.tmp 117) (.tmp 122) 22 rfl w4.heap.size 40 i0 (.agg #[.int .i64 0, .int .i64 0, .int .i64 0]) 3 24 Try.underlying22 HI.out HZ.out HZ1.out HZ2.out rfl (by decide) _ acc.length _ rfl (HOa.out _ _) ⟨wr.heap.size + 1, 0, none⟩ 1 1 (newU s k n).row rfl rfl (NWn.out _) row_one HL1.out HL2.out (HL3.out _ _) ?_)
                    intro v' w5 g1 g2 _
                    have HO5 := Lib.hid (own_snoc g1); have HG5 := Lib.hid g2; clear g1 g2
                    have hz5 := HG5.out.size
                    simp at hz5
                    have hne : some wr.heap.size ≠ Value.ownBlock _ := fun hh => by have := (HLT.out _ hh.symm).2; omega
                    have k0 : w5.cell? ⟨wr.heap.size, 0, none⟩ = some (.int .i64 x.tick) := HG5.out.cell (by simp [go_sem]) hne
                    have k1 : w5.cell? ⟨wr.heap.size, 1, none⟩ = some (.int .i64 x.site) := HG5.out.cell (by simp [go_sem]) hne
                    have k2 : w5.cell? ⟨wr.heap.size, 2, none⟩ = some (.int .i64 x.count) := HG5.out.cell (by simp [go_sem]) hne
                    have HOb := Lib.hid (fun o : Obj => HO5.out.alloc o)
                    have hy5 := ((hy.alloc _).alloc _).own (HOa.out _ _) HG5.out (Nat.le_refl _)
                    have hla : (acc ++ [newU s k n]).length = acc.length + 1 := by simp
                    have HL4 := Lib.hid (show (acc ++ [newU s k n]).length + 1 ≤ maxLen by rw [hla]; unfold maxLen; omega)
                    have HL5 := Lib.hid (show ((acc ++ [newU s k n]).length + 1) * 24 ≤ 140737488355328 by omega)
                    have HL6 := Lib.hid (fun o1 : Obj => show w4.heap.size ≤ (w5.alloc o1).heap.size by simp; omega)
                    have NWb := Lib.hid (news_new w5 x.row 40)
                    clear hne hla
                    go_wp2_with (at_builtin; refine wpList_append_own _ rfl (.tmp 124) (.tmp 126) 22 rfl w4.heap.size 40 i0 (.agg #[.int .i64 0, .int .i64 0, .int .i64 0]) 3 24 Try.underlying22 HI.out HZ.out HZ1.out HZ2.out rfl (by decide) _ (acc ++ [newU s k n]).length _ rfl (HOb.out _) ⟨w5.heap.size, 0, none⟩ 1 1 x.row rfl rfl NWb.out row_one HL4.out HL5.out (HL6.out _) ?_)
                    intro v6 w6 g1 g2 _
                    have HO6 := Lib.hid (show w6.ownsRow w4.heap.size 40 3 v6 (acc ++ [newU s k n] ++ [x]).length ((acc ++ [newU s k n] ++ [x]).map Use.row).flatten by simpa using g1); have HG6 := Lib.hid g2; clear g1 g2
                    go_wp2
                    go_roundw
                    case rel => exact ⟨j + 1, by omega, by go_num, by rw [HT.out, HN.out], by rw [HT.out, HN.out]; exact HO6.out, (hy5.alloc _).own (HOb.out _) HG6.out (Nat.le_refl _)⟩
                    case measure => simp [intOf]; omega
                · have HN := Lib.hid (step_no (n := n) (acc := acc) hc)
                  rcases or3 d (x.tick == k) (decide (s ≤ x.site)) with d0 | ⟨d0, d1⟩ | ⟨d0, d1, d2⟩ | ⟨d0, d1, d2⟩
                  case inr.inr.inr => exact absurd ⟨d0, by simpa using d1, by simpa using d2⟩ hc
                  all_goals
                    subst d0
                    clear hc
                    go_wp2_with (at_builtin; refine wpList_append_own _ rfl (.tmp 124) (.tmp 126) 22 rfl w4.heap.size 40 i0 (.agg #[.int .i64 0, .int .i64 0, .int .i64 0]) 3 24 Try.underlying22 HI.out HZ.out HZ1.out HZ2.out rfl (by decide) _ acc.length _ rfl (HOa.out _ _) ⟨wr.heap.size + 1, 0, none⟩ 1 1 x.row rfl rfl (NWx.out _) row_one HL1.out HL2.out (HL3.out _ _) ?_)
                    intro v' w5 g1 g2 _
                    have HO5 := Lib.hid g1; have HG5 := Lib.hid g2; clear g1 g2
                    go_wp2
                    go_roundw
                    case rel => exact ⟨j + 1, by omega, by go_num, by rw [HT.out, HN.out], by rw [HT.out, HN.out]; exact own_snoc HO5.out, ((hy.alloc _).alloc _).own (HOa.out _ _) HG5.out (Nat.le_refl _)⟩
                    case measure => simp [intOf]; omega
              · obtain rfl : j = P.length := by omega
                have hfa := fold_add s k n P []
                rw [List.take_length] at hO hsl ⊢
                generalize hst : P.foldl (stepU s k n) (false, []) = st at *
                clear hst
                obtain ⟨d, acc⟩ := st
                simp only [List.nil_append] at hO hsl hfa ⊢
                have HO2 := Lib.hid hO
                have hxx := hx04.un.trans hy
                cases d with
                | true =>
                  simp only [if_true] at hfa
                  have HN := Lib.hid hfa
                  clear hO hfa
                  go_wp2
                  go_ret2
                  exact RetTake.own (by rw [HE.out, HN.out]) rfl HO2.out hxx
                | false =>
                  simp only [Bool.false_eq_true, if_false] at hfa
                  have HN := Lib.hid hfa
                  have HOa := Lib.hid (fun o1 : Obj => hO.alloc o1)
                  have HL1 := Lib.hid (show acc.length + 1 ≤ maxLen by unfold maxLen; omega)
                  have HL2 := Lib.hid (show (acc.length + 1) * 24 ≤ 140737488355328 by omega)
                  have HL3 := Lib.hid (fun o1 : Obj => show w4.heap.size ≤ (wr.alloc o1).heap.size by simp; omega)
                  have NWn := Lib.hid (news_new wr (newU s k n).row 40)
                  clear hO hfa
                  go_wp2_with (at_builtin; refine wpList_append_own _ rfl (.tmp 130) (.tmp 135) 22 rfl w4.heap.size 40 i0 (.agg #[.int .i64 0, .int .i64 0, .int .i64 0]) 3 24 Try.underlying22 HI.out HZ.out HZ1.out HZ2.out rfl (by decide) _ acc.length _ rfl (HOa.out _) ⟨wr.heap.size, 0, none⟩ 1 1 (newU s k n).row rfl rfl NWn.out row_one HL1.out HL2.out (HL3.out _) ?_)
                  intro v' w5 g1 g2 _
                  have HO5 := Lib.hid (own_snoc g1); have HG5 := Lib.hid g2; clear g1 g2
                  have hy5 := (hy.alloc _).own (HOa.out _) HG5.out (Nat.le_refl _)
                  go_wp2
                  go_ret2
                  exact RetTake.own (by rw [HE.out, ← HN.out]) (by simp) HO5.out (hx04.un.trans hy5)
end Go.Proofs.Ythjmglbjlfgmaaa
