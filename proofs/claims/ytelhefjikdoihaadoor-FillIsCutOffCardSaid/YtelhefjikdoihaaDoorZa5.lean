/- YtelhefjikdoihaaDoorFx · YtelhefjikdoihaaDoorFy · YtelhefjikdoihaaDoorFz · YtelhefjikdoihaaDoorGa · YtelhefjikdoihaaDoorGb · YtelhefjikdoihaaDoorGc · YtelhefjikdoihaaDoorGd · YtelhefjikdoihaaDoorGe · YtelhefjikdoihaaDoorGg -/
import Derived.Test.YtelhefjikdoihaaDoorZa4
/- Contract of the reference's SameParts. -/
namespace Go.Proofs.YtelhefjikdoihaaDoor
open Go Go.RowKit

theorem samePP_no {la lb : List (List Pt)} {j : Nat} {x y : List Pt} (hx : la[j]? = some x) (hy : lb[j]? = some y) (h : x ≠ y) : decide (la = lb) = false := by
  rw [decide_eq_false_iff_not]
  rintro rfl
  rw [hx] at hy
  injection hy with hy
  exact h hy
theorem samePP_yes {la lb : List (List Pt)} (hl : la.length = lb.length) (h : ∀ (i : Nat) (x y : List Pt), i < la.length → la[i]? = some x → lb[i]? = some y → x = y) : decide (la = lb) = true := by
  rw [decide_eq_true_iff]
  apply List.ext_getElem hl
  intro i h1 h2
  exact h i _ _ h1 (List.getElem?_eq_getElem h1) (List.getElem?_eq_getElem h2)
set_option maxRecDepth 100000 in
set_option maxHeartbeats 4000000 in
theorem SameParts_any (A A2 : Option Addr) (c c2 : Nat) (va vb : List Value) (la lb : List (List Pt)) (w : World) (hs : SvP w w.heap.size A c va la) (hs2 : SvP w w.heap.size A2 c2 vb lb) :
    Calls Tryd.prog 21 #[.slice A la.length c, .slice A2 lb.length c2] w fun e w' => e = .returned (.bool (decide (la = lb))) ∧ Ext w w' := by
  have hm := mixed
  have hG := near_old
  have hln : la.length ≤ 9223372036854775807 := by have h := hs.out.len; rw [List.length_map, hs.len] at h; exact h
  have HS := Lib.hid hs; clear hs
  have HS2 := Lib.hid hs2; clear hs2
  by_cases hl : la.length = lb.length
  · have HL := Lib.hid hl
    have hb : ((la.length : Int) != (lb.length : Int)) = false := by simp [hl]
    clear hl
    go_enter Tryd.func21, Tryd.ntmps21
    go_wp2
    go_loopw [5] (fun i wr => ∃ j : Nat, j ≤ la.length ∧ i = .int .i64 j ∧ (∀ (i : Nat) (x y : List Pt), i < j → la[i]? = some x → lb[i]? = some y → x = y) ∧ Ext w wr) (fun i _ => la.length - (intOf i).toNat)
    case atStart => exact ⟨0, Nat.zero_le _, rfl, fun i x y hi => by omega, Ext.refl _⟩
    case round =>
      obtain ⟨j, hj, rfl, hno, hx⟩ := hrel
      have HNO := Lib.hid hno; clear hno
      have HX := Lib.hid hx
      by_cases hlt : j < la.length
      · obtain ⟨x, hxj⟩ : ∃ x, la[j]? = some x := ⟨_, List.getElem?_eq_getElem hlt⟩
        have hlt2 : j < lb.length := by have := HL.out; omega
        obtain ⟨y, hyj⟩ : ∃ y, lb[j]? = some y := ⟨_, List.getElem?_eq_getElem hlt2⟩
        obtain ⟨b', off, A3, c3, rfl, hbl, r0, sx⟩ := (HS.out.ext hx).row hxj
        obtain ⟨b2, off2, A4, c4, rfl, hbl2, q0, sy⟩ := (HS2.out.ext hx).row hyj
        have HSM := Lib.hid (fun (n : Nat) (os : Array Obj) => SameP_any A3 A4 c3 c4 x y (near wr n os) (sx.ext (Ext.of_near ⟨⟨n, os⟩, rfl⟩)) (sy.ext (Ext.of_near ⟨⟨n, os⟩, rfl⟩)))
        have HXJ := Lib.hid hxj
        have HYJ := Lib.hid hyj
        generalize hbe : decide (x = y) = be at HSM
        have HBE := Lib.hid hbe
        clear hxj hyj hbe hx sx sy
        go_wp2_with fail
        refine wp_region_near (by assumption) (by kernel_rfl) ?_
        repeat (go_big_quiet_step ((go_at_call 17; exact near_call (HSM.out _ _))))
        refine wpQuiet_nil ?_
        intro w1 hw1
        have hy := Ext.of_near hw1
        clear hw1
        cases be
        · go_wp2
          go_ret
          exact ⟨ret_bool (samePP_no HXJ.out HYJ.out (by simpa using HBE.out)).symm, HX.out.trans hy⟩
        · go_wp2
          go_roundw
          case rel =>
            refine ⟨j + 1, by omega, by go_num, fun i x' y' hi h h' => ?_, HX.out.trans hy⟩
            rcases Nat.lt_succ_iff_lt_or_eq.1 hi with h1 | rfl
            · exact HNO.out i x' y' h1 h h'
            · rw [HXJ.out] at h; injection h with h; rw [HYJ.out] at h'; injection h' with h'; subst h h'; simpa using HBE.out
          case measure => simp [intOf]; omega
      · obtain rfl : j = la.length := by omega
        go_wp2
        go_ret
        exact ⟨ret_bool (samePP_yes HL.out HNO.out).symm, HX.out⟩
  · have hb : ((la.length : Int) != (lb.length : Int)) = true := by rw [bne_iff_ne]; omega
    have HL := Lib.hid hl
    clear hl
    go_enter Tryd.func21, Tryd.ntmps21
    go_wp2
    go_ret
    exact ⟨ret_bool (decide_eq_false (fun h => HL.out (by rw [h]))).symm, Ext.refl _⟩
end Go.Proofs.YtelhefjikdoihaaDoor

/- Contract of fill.Parts. -/
namespace Go.Proofs.YtelhefjikdoihaaDoor
open Go Go.RowKit

theorem infoSl : (Tryd.prog.info? 31).map (fun i => (i.zero, i.size, i.bytes)) = some (some (.slice none 0 0), 1, 24) := by kernel_rfl
theorem single_flat (vs : List Value) : (vs.map ([·])).flatten = vs := by
  induction vs with
  | nil => rfl
  | cons v vs ih => simp [ih]
/-- The parts found, in a row of its own; each part lies above base, apart from that row. -/
structure OutP (w : World) (base : Nat) (ov : Value) (vs : List Value) (ps : List (List Pt)) : Prop where
  row : w.ownsRow base 31 1 ov ps.length vs
  len : vs.length = ps.length
  each : ∀ (i : Nat) (v : Value) (p : List Pt), vs[i]? = some v → ps[i]? = some p → ∃ A' c', v = .slice A' p.length c' ∧ Sv w w.heap.size 3 A' c' (rowsP p) ∧ ∀ a : Addr, A' = some a → (base ≤ a.block ∧ a.block < w.heap.size) ∧ ov.ownBlock ≠ some a.block
theorem OutP.kept {w w' : World} {base : Nat} {ov : Value} {vs : List Value} {ps : List (List Pt)} (h : OutP w base ov vs ps) {row : Option Nat} (hg : w.grownBy w' row) (hr : ∀ b, row = some b → b < base) : OutP w' base ov vs ps :=
  ⟨own_keep h.row hg (fun b hb hv => by have h1 := own_low h.row b hv; have h2 := hr b hb; omega), h.len, fun i v p hv hp => by
    obtain ⟨A', c', e, hs, ha⟩ := h.each i v p hv hp
    exact ⟨A', c', e, hs.grown hg (fun a hA hb => by have h1 := (ha a hA).1; have h2 := hr _ hb; omega), fun a hA => ⟨⟨(ha a hA).1.1, Nat.lt_of_lt_of_le (ha a hA).1.2 hg.size⟩, (ha a hA).2⟩⟩⟩
theorem OutP.ext {w w' : World} {base : Nat} {ov : Value} {vs : List Value} {ps : List (List Pt)} (h : OutP w base ov vs ps) (hx : Ext w w') : OutP w' base ov vs ps := h.kept (hx.by_ none) (fun b hb => by cases hb)
theorem OutP.push {w w' : World} {base : Nat} {ov ov' : Value} {vs : List Value} {ps : List (List Pt)} {p : List Pt} {A' : Option Addr} {c' : Nat} (h : OutP w base ov vs ps) (hg : w.grownBy w' ov.ownBlock) (ho : w'.ownsRow base 31 1 ov' (ps.length + 1) (vs ++ [.slice A' p.length c'])) (hv : ov'.ownBlock = ov.ownBlock ∨ ov'.ownBlock = some w.heap.size)
    (hs : Sv w w.heap.size 3 A' c' (rowsP p)) (ha : ∀ a : Addr, A' = some a → (base ≤ a.block ∧ a.block < w.heap.size) ∧ ov.ownBlock ≠ some a.block) : OutP w' base ov' (vs ++ [.slice A' p.length c']) (ps ++ [p]) :=
  ⟨by rw [List.length_append]; exact ho, by rw [List.length_append, List.length_append, h.len]; rfl, fun i v q hi hq => by
    by_cases hlt : i < vs.length
    · rw [List.getElem?_append_left hlt] at hi
      rw [List.getElem?_append_left (by rw [← h.len]; exact hlt)] at hq
      obtain ⟨A2, c2, e, hs2, ha2⟩ := h.each i v q hi hq
      refine ⟨A2, c2, e, hs2.grown hg (fun a hA => (ha2 a hA).2), fun a hA => ⟨⟨(ha2 a hA).1.1, Nat.lt_of_lt_of_le (ha2 a hA).1.2 hg.size⟩, ?_⟩⟩
      rcases hv with hv | hv
      · rw [hv]; exact (ha2 a hA).2
      · rw [hv]
        intro e2
        injection e2 with e2
        have := (ha2 a hA).1.2
        omega
    · rw [List.getElem?_append_right (by omega)] at hi
      rw [List.getElem?_append_right (by rw [← h.len]; omega)] at hq
      have hi0 : i - vs.length = 0 := by
        have := (List.getElem?_eq_some_iff.1 hi).1
        simp at this; omega
      rw [hi0] at hi
      rw [← h.len, hi0] at hq
      simp only [List.getElem?_cons_zero, Option.some.injEq] at hi hq
      subst hi hq
      refine ⟨A', c', rfl, hs.grown hg (fun a hA => (ha a hA).2), fun a hA => ⟨⟨(ha a hA).1.1, Nat.lt_of_lt_of_le (ha a hA).1.2 hg.size⟩, ?_⟩⟩
      rcases hv with hv | hv
      · rw [hv]; exact (ha a hA).2
      · rw [hv]
        intro e2
        injection e2 with e2
        have := (ha a hA).1.2
        omega⟩
theorem OutP.sv {w : World} {base : Nat} {A : Option Addr} {n c : Nat} {vs : List Value} {ps : List (List Pt)} (h : OutP w base (.slice A n c) vs ps) (hn : n = ps.length) : SvP w w.heap.size A c vs ps := by
  subst hn
  refine ⟨Sv.of_own (by rw [single_flat]; exact h.row) (fun x hx => ?_) (by rw [List.length_map, h.len]), h.len, fun i v p hv hp => by obtain ⟨A', c', e, hs, _⟩ := h.each i v p hv hp; exact ⟨A', c', e, hs⟩⟩
  obtain ⟨v, hv, rfl⟩ := List.mem_map.1 hx
  obtain ⟨i, hi⟩ := List.mem_iff_getElem?.1 hv
  have hlt := (List.getElem?_eq_some_iff.1 hi).1
  obtain ⟨A', c', rfl, _⟩ := h.each i v _ hi (List.getElem?_eq_getElem (by rw [← h.len]; exact hlt))
  exact ⟨rfl, fun u hu => by simp only [List.mem_singleton] at hu; subst hu; rfl⟩
theorem OutP.nil (w : World) (base : Nat) : OutP w base (.slice none 0 0) [] [] := ⟨World.ownsRow_nil _ _ _ _, rfl, fun i v p hv => by simp at hv⟩
/-- It hands back a slice of slices of points. -/
def RetPP (P : List (List Pt) → Prop) (w : World) (en : Ending) (w' : World) : Prop :=
  ∃ ps vs A c, P ps ∧ en = .returned (.slice A ps.length c) ∧ SvP w' w'.heap.size A c vs ps ∧ Ext w w'
/-- A row's own value, split: nil, or a block. -/
theorem own_sv {w : World} {base : Nat} {v : Value} {l : List Pt} (h : w.ownsRow base 23 3 v l.length (rowsP l).flatten) : ∃ A c, v = .slice A l.length c ∧ Sv w w.heap.size 3 A c (rowsP l) ∧ ∀ a : Addr, A = some a → base ≤ a.block ∧ a.block < w.heap.size := by
  obtain ⟨A, c, rfl, _⟩ := own_form h
  refine ⟨A, c, rfl, Sv.of_own h (rowsP_rwk l) (rowsP_length l), fun a hA => ?_⟩
  rcases h.2 with ⟨h1, _⟩ | ⟨g, cap, cur, h1, h2, h3, _⟩
  · injection h1 with h1; subst hA; cases h1
  · injection h1 with h1
    subst hA
    injection h1 with h1
    subst h1
    exact ⟨h2, (Array.getElem?_eq_some_iff.1 h3).1⟩
end Go.Proofs.YtelhefjikdoihaaDoor

/- Contract of fill.Parts. -/
namespace Go.Proofs.YtelhefjikdoihaaDoor
open Go Go.RowKit

theorem mem_take_succ {l : List Pt} {k : Nat} {p : Pt} (h : l[k]? = some p) (q : Pt) : q ∈ l.take (k + 1) ↔ q = p ∨ q ∈ l.take k := by rw [take_snoc' h, List.mem_append, List.mem_singleton, or_comm]
theorem Sv.grownB {w w' : World} {B k c : Nat} {A : Option Addr} {xs : List (List Value)} (h : Sv w B k A c xs) (hB : B ≤ w.heap.size) {row : Option Nat} (hg : w.grownBy w' row) (ha : ∀ a : Addr, A = some a → row ≠ some a.block) : Sv w' B k A c xs :=
  ⟨h.le, h.max, h.rows, fun hn => by
    obtain ⟨b, off, e, hb, hc⟩ := h.mem hn
    refine ⟨b, off, e, hb, fun j u hu => ?_⟩
    rw [World.cell?_of_block (hg.block b (Nat.lt_of_lt_of_le hb hB) (fun e2 => ha _ e e2.symm))]
    exact hc j u hu⟩
theorem set_flood {s : List Pt} {p : Pt} {n : Nat} {r : List Pt} {er : Int} (h : FloodOut (setF s) p n r er) (hp : p ∈ s) (hs : s.length ≤ n) : IsReg (setF s) 1 p r := by
  rcases h with ⟨h1, _⟩ | ⟨v, h1, ⟨⟨r', h2, h3, h4⟩, _⟩ | ⟨h2, h3, _⟩⟩
  · exact absurd h1 (setF_ne.2 hp)
  · rw [setF_iff.2 hp] at h1; injection h1 with h1; subst h1
    have := nodup_sub h2 (fun x hx => (h3 x hx).in_ hp)
    omega
  · rw [setF_iff.2 hp] at h1; injection h1 with h1; subst h1
    exact h2
set_option maxRecDepth 100000 in
set_option maxHeartbeats 8000000 in
theorem fillParts_any (A : Option Addr) (c : Nat) (l : List Pt) (w : World) (hst : StepsIn w) (hs : Sv w w.heap.size 3 A c (rowsP l)) (hb : l.length ≤ 1000) (hsm : ∀ p, p ∈ l → Small p) :
    Calls Tryd.prog 22 #[.slice A l.length c] w (RetPP (IsParts l) w) := by
  have hln : l.length ≤ 9223372036854775807 := by omega
  have HS := Lib.hid hs; have HST := Lib.hid hst; have HSM := Lib.hid hsm
  clear hs hst hsm
  have HM0 := Lib.hid (MapF.made (enc := ptV) w)
  have HX0 := Lib.hid (show Ext w (w.alloc (.map #[] 0)) from (Ext.refl w).alloc _)
  have hmm := @run_makeMap Tryd.prog
  go_enter Tryd.func22, Tryd.ntmps22
  go_upto_region 3 with fail
  have hs0 : (w.alloc (.map #[] 0)).heap.size = w.heap.size + 1 := by simp
  obtain ⟨mb, hmb⟩ : ∃ mb, mb = w.heap.size := ⟨_, rfl⟩
  obtain ⟨W0, hW⟩ : ∃ W, W = w.alloc (.map #[] 0) := ⟨_, rfl⟩
  rw [← hW] at HM0 HX0 hs0
  rw [← hW, ← hmb]
  rw [← hmb] at HM0 hs0
  have HMB := Lib.hid hmb
  clear hW hmb hmm
  go_loopw [16] (fun i wr => ∃ k : Nat, i = .int .i64 k ∧ k ≤ l.length ∧ MapF ptV wr mb (fun q => if q ∈ l.take k then some (.bool true) else none) ∧ Ext w wr ∧ W0.heap.size ≤ wr.heap.size) (fun i _ => l.length - (intOf i).toNat)
  case atStart => exact ⟨0, rfl, Nat.zero_le _, HM0.out.cong (fun q => by simp), HX0.out, Nat.le_refl _⟩
  case round =>
    obtain ⟨k, rfl, hk, hmp, hx, hsz⟩ := hrel
    have HM := Lib.hid hmp; have HX := Lib.hid hx
    clear hmp
    by_cases hlt : k < l.length
    · obtain ⟨p, hp⟩ : ∃ p, l[k]? = some p := ⟨_, List.getElem?_eq_getElem hlt⟩
      obtain ⟨b', off, rfl, hbl, r0, r1, r2⟩ := pt_row (HS.out.ext hx) hp
      have HP := Lib.hid hp
      have hx1 : Ext wr (wr.alloc (.cells #[.int .i64 p.x, .int .i64 p.y, .int .i64 p.z] 23)) := (Ext.refl _).alloc _
      have HB5 := Lib.hid (Arr.new wr 23 [.int .i64 p.x, .int .i64 p.y, .int .i64 p.z])
      have HM1 := Lib.hid (HM.out.ext hx1); have HX1 := Lib.hid (HX.out.trans hx1)
      have hsz1 := hx1.size
      clear hp hx hx1
      go_upto_region 5 with fail
      obtain ⟨W1, hW⟩ : ∃ W, W = wr.alloc (.cells #[.int .i64 p.x, .int .i64 p.y, .int .i64 p.z] 23) := ⟨_, rfl⟩
      rw [← hW] at HB5 HM1 HX1 hsz1
      rw [← hW]
      clear hW r0 r1 r2
      go_wp2_with (first
        | (refine wpList_load_blk 23 (.tmp 5) rfl rfl HB5.out rfl _ Tryd.underlying23 rfl (by kernel_rfl) ?_)
        | (refine wpList_mapUpdate_F rfl (.tmp 20) (.tmp 21) (.const (.bool true)) rfl HM1.out ktPt Tryd.underlying71 p (.bool true) rfl rfl rfl ?_))
      intro w2 hm2 hg2
      have HM2 := Lib.hid hm2; have hsz2 := hg2.size
      have HX2 := Lib.hid (HX1.out.grown hg2 (fun b hb => by injection hb with hb; have := HMB.out; omega))
      clear hm2 hg2
      go_wp2
      go_roundw
      case rel => exact ⟨k + 1, by go_num, by omega, HM2.out.cong (fun q => by simp only [mem_take_succ HP.out]; by_cases h1 : q = p <;> simp [h1]), HX2.out, by omega⟩
      case measure => simp [intOf]; omega
    · obtain rfl : k = l.length := by omega
      rw [List.take_length] at HM
      have HSO := Lib.hid (fillSorted_any A c l wr (HS.out.ext hx) (by omega))
      clear hx
      go_upto_region 9 with (go_at_call 19; refine HSO.out.mono ?_; rintro e w2 ⟨m, v, hm2, rfl, ho2, hx2⟩; have hml := hm2.len; obtain ⟨A2, c2, rfl, hsv2, hbl2⟩ := own_sv ho2; have hmm2 : m.length ≤ 9223372036854775807 := Nat.le_trans hml hln)
      have HSV := Lib.hid hsv2; have HSD := Lib.hid hm2
      have HM2 := Lib.hid (HM.out.ext hx2)
      have HX2 := Lib.hid (HX.out.trans hx2)
      have hsz2 := hx2.size
      have hbl3 : ∀ a : Addr, A2 = some a → mb < a.block := fun a ha => by have h1 := (hbl2 a ha).1; have h2 := HMB.out; have h3 := HM.out.lt; omega
      have HBL := Lib.hid hbl3
      clear hm2 ho2 hx2 hbl2 hbl3 hsv2 HSO HM HX
      clear hsz hs0
      have hsz3 : mb < w2.heap.size := by have := HMB.out; have := HX2.out.size; have := HM2.out.lt; omega
      obtain ⟨bs, hbs⟩ : ∃ bs, bs = w2.heap.size := ⟨_, rfl⟩
      have HBS := Lib.hid hbs; clear hbs
      go_wp2_with fail
      go_loopw [6, 26] (fun ov i wr => ∃ (k : Nat) (ps : List (List Pt)) (vs : List Value) (oo : Value), i = .int .i64 k ∧ oo = ov ∧ k ≤ m.length ∧ PT l m k ps ∧ OutP wr bs oo vs ps ∧ MapF ptV wr mb (fun q => if q ∈ leftL l ps then some (.bool true) else none) ∧ Ext w wr ∧ Sv wr bs 3 A2 c2 (rowsP m) ∧ bs ≤ wr.heap.size) (fun _ i _ => m.length - (intOf i).toNat)
      case atStart => exact ⟨0, [], [], _, rfl, rfl, Nat.zero_le _, .zero, OutP.nil _ _, HM2.out.cong (fun q => by simp [mem_left]), HX2.out, HBS.out ▸ HSV.out, HBS.out ▸ Nat.le_refl _⟩
      case round =>
        obtain ⟨k, ps, vs, ov, rfl, hov, hk, hpt, ho, hmp, hx, hsv, hbw⟩ := hrel
        subst hov
        have HPT := Lib.hid hpt; have HO := Lib.hid ho; have HM := Lib.hid hmp; have HX := Lib.hid hx; have HSV := Lib.hid hsv
        have hlm : ∀ q, q ∈ m → q ∈ l := fun q => (HSD.out.mem q).1
        have HLM := Lib.hid hlm
        clear hpt ho hmp hx hsv hlm
        by_cases hlt : k < m.length
        · obtain ⟨p, hp⟩ : ∃ p, m[k]? = some p := ⟨_, List.getElem?_eq_getElem hlt⟩
          obtain ⟨b', off, rfl, hbl, r0, r1, r2⟩ := pt_row (HSV.out.more hbw) hp
          have HP := Lib.hid hp
          have hx1 : Ext wr (wr.alloc (.cells #[.int .i64 p.x, .int .i64 p.y, .int .i64 p.z] 23)) := (Ext.refl _).alloc _
          have HB8 := Lib.hid (Arr.new wr 23 [.int .i64 p.x, .int .i64 p.y, .int .i64 p.z])
          have HM1 := Lib.hid (HM.out.ext hx1); have HX1 := Lib.hid (HX.out.trans hx1); have HO1 := Lib.hid (HO.out.ext hx1)
          have HSV1 := Lib.hid (HSV.out.keep (fun q hq => hx1.cell (Nat.lt_of_lt_of_le hq hbw)))
          have hsz1 := hx1.size
          have hpb : wr.heap.size < (wr.alloc (.cells #[.int .i64 p.x, .int .i64 p.y, .int .i64 p.z] 23)).heap.size := by simp
          clear hp hx1
          go_upto_region 11 with fail
          obtain ⟨pb, hpbe⟩ : ∃ pb, pb = wr.heap.size := ⟨_, rfl⟩
          obtain ⟨W1, hW⟩ : ∃ W, W = wr.alloc (.cells #[.int .i64 p.x, .int .i64 p.y, .int .i64 p.z] 23) := ⟨_, rfl⟩
          rw [← hW] at HB8 HM1 HX1 hsz1 HO1 HSV1 hpb
          rw [← hW, ← hpbe]
          rw [← hpbe] at HB8 hsz1 hbw hpb
          clear hW r0 r1 r2 hpbe
          have hlk : (Instr.lookup 71 (.map (some mb)) (.agg #[.int .i64 p.x, .int .i64 p.y, .int .i64 p.z]) false).run Tryd.prog W1 = .ok (.bool (decide (p ∈ leftL l ps))) W1 := by
            have h := HM1.out.look ktPt Tryd.underlying71 (zeroBool _) p false
            by_cases hq : p ∈ leftL l ps <;> simpa [hq, ptV] using h
          by_cases hin : p ∈ leftL l ps
          · rw [decide_eq_true hin] at hlk
            have hne := (mem_left.1 hin).2
            have hpl := (mem_left.1 hin).1
            have HNE := Lib.hid hne; have HPL := Lib.hid hpl; have HIN := Lib.hid hin
            clear hin hne hpl
            go_upto_region 12 with (refine wpList_load_blk 23 (.tmp 8) rfl rfl HB8.out rfl _ Tryd.underlying23 rfl (by kernel_rfl) ?_)
            have HFL := Lib.hid (fillFlood_any (w := W1) (set_V (leftL l ps) mb W1.heap.size (by have := HBS.out; omega)) (HST.out.ext HX1.out) (by simp) p l.length 1000 (by omega) (fun l' hd h => Nat.le_trans (nodup_sub hd (fun x hx => (mem_left.1 (setF_ne.1 (h x hx))).1)) hb) (fun q hq => HSM.out q (mem_left.1 (setF_ne.1 hq)).1) HM1.out)
            go_upto_region 13 with (first
              | (refine wpList_load_blk 23 (.tmp 8) rfl rfl HB8.out rfl _ Tryd.underlying23 rfl (by kernel_rfl) ?_)
              | (go_at_call 10; refine HFL.out.mono ?_; rintro e w3 ⟨r, er, kk, v3, hP, hkk, rfl, ho3, hm3, hg3⟩))
            have hll : (leftL l ps).length ≤ l.length := List.length_filter_le ..
            have hreg := set_flood hP HIN.out hll
            have hrl : r.length ≤ l.length := nodup_sub hreg.sort.nodup (fun x hx => (mem_left.1 (((hreg.mem x).1 hx).in_ HIN.out)).1)
            have hrl2 : r.length ≤ 9223372036854775807 := Nat.le_trans hrl hln
            obtain ⟨A3, c3, rfl, hsv3, hbl3⟩ := own_sv ho3
            have hx3 : Ext W1 w3 := (Ext.refl _).grown hg3 (fun k hk => by cases hk)
            have HX3 := Lib.hid (HX1.out.trans hx3); have HO3 := Lib.hid (HO1.out.ext hx3)
            have HM3 := Lib.hid hm3; have HR := Lib.hid hsv3; have HRB := Lib.hid hbl3; have HRG := Lib.hid hreg
            have HSV3 := Lib.hid (HSV1.out.keep (fun q hq => hx3.cell (by omega)))
            have hsz3 := hx3.size
            have hmbs : mb < bs := by have := HBS.out; omega
            have HAP := Lib.hid (show ∀ a : Addr, A3 = some a → ov.ownBlock ≠ some a.block from fun a ha e => by have h1 := (HO1.out.row.lt _ e).2; have h2 := (hbl3 a ha).1; omega)
            clear hP hkk ho3 hm3 hg3 hx3 hreg hsv3 hbl3 hlk HFL HM1 HO1 HSV1 HX1 HB8 hll
            go_wp2_with fail
            go_loopw [45] (fun i w4 => ∃ j : Nat, i = .int .i64 j ∧ j ≤ r.length ∧ MapF ptV w4 mb (fun q => if q ∈ leftL l ps ∧ q ∉ r.take j then some (.bool true) else none) ∧ w3.grownBy w4 (some mb)) (fun i _ => r.length - (intOf i).toNat)
            case atStart => exact ⟨0, rfl, Nat.zero_le _, MapF.cong HM3.out (fun q => by simp), grown_refl _ _⟩
            case round =>
              obtain ⟨j, rfl, hj, hm4, hg4⟩ := hrel
              have HM4 := Lib.hid hm4; have HG4 := Lib.hid hg4
              have HR4 := Lib.hid (HR.out.grown hg4 (fun a ha e => by injection e with e; have h1 := (HRB.out a ha).1; omega))
              clear hm4 hg4
              by_cases hjl : j < r.length
              · obtain ⟨q, hq⟩ : ∃ q, r[j]? = some q := ⟨_, List.getElem?_eq_getElem hjl⟩
                obtain ⟨b4, off4, hA3, hbl4, s0, s1, s2⟩ := pt_row HR4.out hq
                subst hA3
                have HQ := Lib.hid hq
                have hx4 : Ext wr (wr.alloc (.cells #[.int .i64 q.x, .int .i64 q.y, .int .i64 q.z] 23)) := (Ext.refl _).alloc _
                have HB12 := Lib.hid (Arr.new wr 23 [.int .i64 q.x, .int .i64 q.y, .int .i64 q.z])
                have HM5 := Lib.hid (HM4.out.ext hx4); have HG5 := Lib.hid (grown_ext HG4.out hx4)
                clear hq hx4
                go_upto_region 16 with fail
                obtain ⟨W4, hW⟩ : ∃ W, W = wr.alloc (.cells #[.int .i64 q.x, .int .i64 q.y, .int .i64 q.z] 23) := ⟨_, rfl⟩
                rw [← hW] at HB12 HM5 HG5
                rw [← hW]
                clear hW s0 s1 s2
                go_wp2_with (first
                  | (refine wpList_load_blk 23 (.tmp 12) rfl rfl HB12.out rfl _ Tryd.underlying23 rfl (by kernel_rfl) ?_)
                  | (refine wpList_delete_F rfl (.tmp 49) (.tmp 50) rfl HM5.out ktPt Tryd.underlying71 q rfl rfl ?_))
                intro w5 hm5 hg5
                have HM6 := Lib.hid hm5; have HG6 := Lib.hid (grown_trans HG5.out hg5)
                clear hm5 hg5
                go_wp2
                go_roundw
                case rel =>
                  refine ⟨j + 1, by go_num, by omega, HM6.out.cong (fun x => ?_), HG6.out⟩
                  simp only [mem_take_succ HQ.out]
                  by_cases h1 : x = q <;> simp [h1]
                case measure => simp [intOf]; omega
              · obtain rfl : j = r.length := by omega
                rw [List.take_length] at HM4
                obtain ⟨i0, hi, hz0, hz1, hz2⟩ := info_parts infoSl
                have HI := Lib.hid hi; have HZ := Lib.hid hz0; have HZ1 := Lib.hid hz1; have HZ2 := Lib.hid hz2; clear hi hz0 hz1 hz2
                have hx5 : Ext wr (wr.alloc (.cells #[.slice A3 r.length c3] 31)) := (Ext.refl _).alloc _
                have hsz4 := HG4.out.size
                have hsn : Sv (wr.alloc (.cells #[.slice A3 r.length c3] 31)) (wr.alloc (.cells #[.slice A3 r.length c3] 31)).heap.size 1 (some ⟨wr.heap.size, 0, none⟩) 1 [[.slice A3 r.length c3]] :=
                  ⟨Nat.le_refl _, by decide, fun x hx => by simp only [List.mem_singleton] at hx; subst hx; exact ⟨rfl, fun u hu => by simp only [List.mem_singleton] at hu; subst hu; rfl⟩, fun _ => ⟨wr.heap.size, 0, rfl, by simp, fun j u hu => by
                    rw [Nat.zero_add, cell_of_row _ _ _ _ _ _ (heap_alloc_new wr _)]
                    simpa using hu⟩⟩
                have HO5 := Lib.hid ((HO3.out.kept HG4.out (fun b hb => by injection hb with hb; omega)).ext hx5)
                have HR5 := Lib.hid (HR4.out.ext hx5); have HM5 := Lib.hid (HM4.out.ext hx5); have HSN := Lib.hid hsn
                have hg5 := grown_ext HG4.out hx5
                have HX5 := Lib.hid (HX3.out.grown hg5 (fun b hb => by injection hb with hb; have := HMB.out; omega))
                have HSV5 := Lib.hid (HSV3.out.grownB (by omega) hg5 (fun a ha e => by injection e with e; have := HBL.out a ha; omega))
                have hsz5 := hx5.size
                clear hx5 hsn hg5 HM4 HG4 HR4 HSV3 HX3 HO3
                have hpl := HPT.out.count
                have hbase : bs ≤ (wr.alloc (.cells #[.slice A3 r.length c3] 31)).heap.size := by omega
                go_wp2_with (at_builtin; refine wpList_append_sv _ rfl (.tmp 52) (.tmp 54) 46 rfl bs 31 i0 (.slice none 0 0) 1 24 Tryd.underlying46 HI.out HZ.out HZ1.out HZ2.out rfl (by decide) ov ps.length vs rfl HO5.out.row _ _ 1 1 _ rfl HSN.out rfl (by unfold maxLen; omega) (by omega) hbase ?_)
                intro v6 w6 ho6 hg6 hv6
                have low := own_low HO5.out.row
                have HO6 := Lib.hid (HO5.out.push hg6 ho6 (by rw [World.size_alloc_]; exact hv6) HR5.out (fun a ha => ⟨⟨by have := (HRB.out a ha).1; omega, by have := (HRB.out a ha).2; omega⟩, HAP.out a ha⟩))
                have HM6 := Lib.hid (HM5.out.kept hg6 (fun e => by have := low _ e; omega))
                have HX6 := Lib.hid (HX5.out.grown hg6 (fun b hb => by have := low b hb; have := HBS.out; have := HX2.out.size; omega))
                have HSV6 := Lib.hid (HSV5.out.keep (w' := w6) (fun q hq => World.cell?_of_block (hg6.block _ (by omega) (fun e => by have := low _ e.symm; omega))))
                have hsz6 := hg6.size
                clear ho6 hg6 hv6 low HO5 HM5 HX5 HSV5 HR5 HSN
                go_wp2
                go_roundw
                case rel =>
                  refine ⟨k + 1, ps ++ [r], vs ++ [.slice A3 r.length c3], _, by go_num, rfl, by omega, HPT.out.add HP.out HNE.out (HPT.out.regLeft HLM.out HPL.out HNE.out HRG.out), HO6.out, HM6.out.cong (fun q => ?_), HX6.out, HSV6.out, by omega⟩
                  simp only [mem_left, List.flatten_append, List.flatten_cons, List.flatten_nil, List.append_nil, List.mem_append, not_or, and_assoc]
                case measure => simp [intOf]; omega
          · rw [decide_eq_false hin] at hlk
            have HIN := Lib.hid hin
            clear hin
            go_wp2_with (refine wpList_load_blk 23 (.tmp 8) rfl rfl HB8.out rfl _ Tryd.underlying23 rfl (by kernel_rfl) ?_)
            go_roundw
            case rel =>
              refine ⟨k + 1, ps, vs, _, by go_num, rfl, by omega, HPT.out.skip HP.out ?_, HO1.out, HM1.out, HX1.out, HSV1.out, by omega⟩
              have h1 : p ∈ l := HLM.out p (List.mem_of_getElem? HP.out)
              exact Classical.byContradiction fun h2 => HIN.out (mem_left.2 ⟨h1, h2⟩)
            case measure => simp [intOf]; omega
        · obtain rfl : k = m.length := by omega
          obtain ⟨A9, n9, c9, rfl⟩ := store_form HO.out.row
          go_wp2
          go_ret
          have hn : n9 = ps.length := by obtain ⟨A', c', e, _⟩ := own_form (xs := vs.map ([·])) (by rw [single_flat]; exact HO.out.row); injection e
          subst hn
          exact ⟨ps, vs, A9, c9, ⟨m, HSD.out, HPT.out⟩, rfl, HO.out.sv rfl, HX.out⟩
end Go.Proofs.YtelhefjikdoihaaDoor

/- The reference's Parts, plainly; two rows that grow beside each other. -/
namespace Go.Proofs.YtelhefjikdoihaaDoor
open Go Go.RowKit

structure GoodS (l : List Pt) (a : Pt) (r : List Pt) : Prop where
  sort : SortP r
  mem : a ∈ r
  reach : ∀ q, q ∈ r → Reach (setF l) 1 a q
theorem GoodS.sub {l r : List Pt} {a : Pt} (h : GoodS l a r) (ha : a ∈ l) {q : Pt} (hq : q ∈ r) : q ∈ l := (h.reach q hq).in_ ha
theorem GoodS.len {l r : List Pt} {a : Pt} (h : GoodS l a r) (ha : a ∈ l) : r.length ≤ l.length := nodup_sub h.sort.nodup fun _ hq => h.sub ha hq
theorem GoodS.put {l r : List Pt} {a p : Pt} (h : GoodS l a r) (ha : a ∈ l) (hp : p ∈ l) (hsm : ∀ q, q ∈ l → Small q) (hn : r.any (fun y => nearW y p) = true) : GoodS l a (putL r p) := by
  obtain ⟨y, hy, hny⟩ := List.any_eq_true.1 hn
  have hR : Reach (setF l) 1 a p := (h.reach y hy).step ((nearW_iff (hsm _ (h.sub ha hy)) (hsm _ hp)).1 hny) (setF_iff.2 hp)
  rw [putL_ins]
  exact ⟨insP_sort _ _ h.sort, (insP_mem _ _ _).2 (.inr h.mem), fun q hq => by
    rcases (insP_mem _ _ _).1 hq with rfl | hq
    · exact hR
    · exact h.reach q hq⟩
def ClosedS (m r : List Pt) (k : Nat) : Prop := ∀ j q, j < k → m[j]? = some q → q ∉ r → r.any (fun y => nearW y q) = false
theorem GoodS.isReg {l m r : List Pt} {a : Pt} (h : GoodS l a r) (ha : a ∈ l) (hm : ∀ q, q ∈ m ↔ q ∈ l) (hsm : ∀ q, q ∈ l → Small q) (hc : ClosedS m r m.length) : IsReg (setF l) 1 a r :=
  ⟨h.sort, fun q => ⟨h.reach q, fun hq => by
    induction hq with
    | base => exact h.mem
    | @step p q hp ha2 hF ih =>
      apply Classical.byContradiction
      intro hno
      have hql := setF_iff.1 hF
      obtain ⟨j, hj⟩ := List.mem_iff_getElem?.1 ((hm q).2 hql)
      have h1 := hc j q (List.getElem?_eq_some_iff.1 hj).1 hj hno
      have h2 : r.any (fun y => nearW y q) = true := List.any_eq_true.2 ⟨p, ih, (nearW_iff (hsm _ (h.sub ha ih)) (hsm _ hql)).2 ha2⟩
      rw [h1] at h2
      cases h2⟩⟩
structure PassS (l m : List Pt) (a : Pt) (l0 r : List Pt) (gb : Bool) (k : Nat) : Prop where
  good : GoodS l a r
  more : gb = true → l0.length < r.length
  same : gb = false → r = l0 ∧ ClosedS m l0 k
theorem PassS.keep {l m l0 r : List Pt} {a p : Pt} {gb : Bool} {k : Nat} (h : PassS l m a l0 r gb k) (hp : m[k]? = some p) (hno : p ∈ r ∨ r.any (fun y => nearW y p) = false) : PassS l m a l0 r gb (k + 1) :=
  ⟨h.good, h.more, fun hg => by
    obtain ⟨rfl, hc⟩ := h.same hg
    refine ⟨rfl, fun j q hj h1 h2 => ?_⟩
    rcases Nat.lt_succ_iff_lt_or_eq.1 hj with h3 | rfl
    · exact hc j q h3 h1 h2
    · rw [hp] at h1; injection h1 with h1; subst h1
      rcases hno with h4 | h4
      · exact absurd h4 h2
      · exact h4⟩
theorem PassS.grow {l m l0 r : List Pt} {a p : Pt} {gb : Bool} {k : Nat} (h : PassS l m a l0 r gb k) (ha : a ∈ l) (hp : p ∈ l) (hsm : ∀ q, q ∈ l → Small q) (h1 : p ∉ r) (h2 : r.any (fun y => nearW y p) = true) : PassS l m a l0 (putL r p) true (k + 1) :=
  ⟨h.good.put ha hp hsm h2, fun _ => by
    have e : (putL r p).length = r.length + 1 := by rw [putL_ins, insP_len h1]
    rw [e]
    cases gb
    · rw [(h.same rfl).1]; omega
    · have := h.more rfl; omega, fun h => by cases h⟩
/-- The parts' row and the row of the cells seen, beside each other. -/
structure TwoP (w : World) (base : Nat) (ov : Value) (vs : List Value) (ps : List (List Pt)) (sv : Value) (zs : List Pt) : Prop where
  o : OutP w base ov vs ps
  s : w.ownsRow base 23 3 sv zs.length (rowsP zs).flatten
  os : ∀ b, sv.ownBlock = some b → ov.ownBlock ≠ some b
  is : ∀ (i : Nat) (v : Value), vs[i]? = some v → ∀ (a : Addr) (n c : Nat), v = .slice (some a) n c → sv.ownBlock ≠ some a.block
section
variable {w w' : World} {base : Nat} {ov ov' sv sv' : Value} {vs : List Value} {ps : List (List Pt)} {zs r : List Pt} {A' : Option Addr} {c' : Nat}
theorem OutP.lo (h : OutP w base ov vs ps) {i : Nat} {v : Value} (hv : vs[i]? = some v) {a : Addr} {n c : Nat} (e : v = .slice (some a) n c) : (base ≤ a.block ∧ a.block < w.heap.size) ∧ ov.ownBlock ≠ some a.block := by
  have hi := (List.getElem?_eq_some_iff.1 hv).1
  obtain ⟨A2, c2, e2, _, ha⟩ := h.each i v _ hv (List.getElem?_eq_getElem (by rw [← h.len]; exact hi))
  rw [e] at e2
  injection e2 with e2
  exact ha a e2.symm
theorem TwoP.ext (h : TwoP w base ov vs ps sv zs) (hx : Ext w w') : TwoP w' base ov vs ps sv zs := ⟨h.o.ext hx, own_ext h.s hx, h.os, h.is⟩
theorem OutP.kept2 (h : OutP w base ov vs ps) {row : Option Nat} (hg : w.grownBy w' row) (hr : ∀ b, row = some b → ov.ownBlock ≠ some b) (hi : ∀ (i : Nat) (v : Value), vs[i]? = some v → ∀ (a : Addr) (n c : Nat), v = .slice (some a) n c → row ≠ some a.block) : OutP w' base ov vs ps :=
  ⟨own_keep h.row hg hr, h.len, fun i v p hv hp => by
    obtain ⟨A', c', e, hs, ha⟩ := h.each i v p hv hp
    exact ⟨A', c', e, hs.grown hg (fun a hA => hi i v hv a _ _ (by rw [e, hA])), fun a hA => ⟨⟨(ha a hA).1.1, Nat.lt_of_lt_of_le (ha a hA).1.2 hg.size⟩, (ha a hA).2⟩⟩⟩
/-- The row of the cells seen has taken a part. -/
theorem TwoP.seen (h : TwoP w base ov vs ps sv zs) (hg : w.grownBy w' sv.ownBlock) (ho : w'.ownsRow base 23 3 sv' (zs.length + r.length) ((rowsP zs).flatten ++ (rowsP r).flatten)) (hv : sv'.ownBlock = sv.ownBlock ∨ sv'.ownBlock = some w.heap.size) : TwoP w' base ov vs ps sv' (zs ++ r) :=
  ⟨h.o.kept2 hg h.os h.is, by rw [rowsP_append, List.flatten_append, List.length_append]; exact ho, fun b hb e => by
    rcases hv with hv | hv
    · exact h.os b (hv ▸ hb) e
    · have h1 := (h.o.row.lt b e).2
      rw [hv] at hb; injection hb with hb; omega, fun i v hi a n c e hb => by
    rcases hv with hv | hv
    · exact h.is i v hi a n c e (hv ▸ hb)
    · have h1 := (h.o.lo hi e).1.2
      rw [hv] at hb; injection hb with hb; omega⟩
/-- The parts' row has taken the part. -/
theorem TwoP.push (h : TwoP w base ov vs ps sv zs) (hg : w.grownBy w' ov.ownBlock) (ho : w'.ownsRow base 31 1 ov' (ps.length + 1) (vs ++ [.slice A' r.length c'])) (hv : ov'.ownBlock = ov.ownBlock ∨ ov'.ownBlock = some w.heap.size)
    (hs : Sv w w.heap.size 3 A' c' (rowsP r)) (ha : ∀ a : Addr, A' = some a → (base ≤ a.block ∧ a.block < w.heap.size) ∧ ov.ownBlock ≠ some a.block) (hb : ∀ a : Addr, A' = some a → sv.ownBlock ≠ some a.block) : TwoP w' base ov' (vs ++ [.slice A' r.length c']) (ps ++ [r]) sv zs :=
  ⟨h.o.push hg ho hv hs ha, own_keep h.s hg (fun b hb hv => h.os b hv hb), fun b hb e => by
    rcases hv with hv | hv
    · exact h.os b hb (hv ▸ e)
    · have h1 := (h.s.lt b hb).2
      rw [hv] at e; injection e with e; omega, fun i v hi a n c e hbb => by
    by_cases hlt : i < vs.length
    · rw [List.getElem?_append_left hlt] at hi
      exact h.is i v hi a n c e hbb
    · rw [List.getElem?_append_right (by omega)] at hi
      have hi0 : i - vs.length = 0 := by
        have := (List.getElem?_eq_some_iff.1 hi).1
        simp at this; omega
      rw [hi0] at hi
      simp only [List.getElem?_cons_zero, Option.some.injEq] at hi
      subst hi
      injection e with e
      exact hb a e hbb⟩
end
theorem TwoP.nil (w : World) (base : Nat) : TwoP w base (.slice none 0 0) [] [] (.slice none 0 0) [] := ⟨OutP.nil w base, World.ownsRow_nil _ _ _ _, fun b hb => by simp [Value.ownBlock] at hb, fun i v hv => by simp at hv⟩
def boolN : Value → Nat
  | .bool true => 1
  | _ => 0
end Go.Proofs.YtelhefjikdoihaaDoor

/- Contract of the reference's Parts. -/
namespace Go.Proofs.YtelhefjikdoihaaDoor
open Go Go.RowKit

set_option maxRecDepth 100000 in
set_option maxHeartbeats 8000000 in
theorem refParts_any (A : Option Addr) (c : Nat) (l : List Pt) (w : World) (hs : Sv w w.heap.size 3 A c (rowsP l)) (hb : l.length ≤ 1000) (hsm : ∀ p, p ∈ l → Small p) :
    Calls Tryd.prog 23 #[.slice A l.length c] w (RetPP (IsParts l) w) := by
  have hln : l.length ≤ 9223372036854775807 := by omega
  have HS := Lib.hid hs; have HSM := Lib.hid hsm
  have HSO := Lib.hid (refSorted_any A c l w hs (by omega))
  clear hs hsm
  go_enter Tryd.func23, Tryd.ntmps23
  go_upto_region 4 with (go_at_call 20; refine HSO.out.mono ?_; rintro e w2 ⟨m, hm2, A2, c2, rfl, hsv2, hx2⟩; have hml := hm2.len; have hmm2 : m.length ≤ 9223372036854775807 := Nat.le_trans hml hln)
  have HSD := Lib.hid hm2; have HSV2 := Lib.hid hsv2; have HX2 := Lib.hid hx2
  have hlm : ∀ q, q ∈ m ↔ q ∈ l := hm2.mem
  have HLM := Lib.hid hlm
  clear hm2 hsv2 hx2 hlm HSO
  obtain ⟨bs, hbs⟩ : ∃ bs, bs = w2.heap.size := ⟨_, rfl⟩
  have HBS := Lib.hid hbs; clear hbs
  go_wp2_with fail
  go_loopw [3, 4, 6] (fun ov sv i wr => ∃ (k : Nat) (ps : List (List Pt)) (vs : List Value) (oo so : Value) (zs : List Pt), i = .int .i64 k ∧ oo = ov ∧ so = sv ∧ k ≤ m.length ∧ PT l m k ps ∧ TwoP wr bs oo vs ps so zs ∧ zs = ps.flatten ∧ Ext w2 wr) (fun _ _ i _ => m.length - (intOf i).toNat)
  case atStart => exact ⟨0, [], [], _, _, [], rfl, rfl, rfl, Nat.zero_le _, .zero, TwoP.nil _ _, rfl, Ext.refl _⟩
  case round =>
    obtain ⟨k, ps, vs, ov, so, zs, rfl, hov, hso, hk, hpt, htw, hzs, hx⟩ := hrel
    subst hov hso
    have hpf := hpt.len (fun q => (HLM.out q).1)
    rw [← hzs] at hpf
    have HZS := Lib.hid hzs
    clear hzs
    have hpc := hpt.count
    have HPT := Lib.hid hpt; have HT := Lib.hid htw; have HX := Lib.hid hx
    have HSV := Lib.hid (HSV2.out.ext hx)
    have hbw := hx.size
    clear hpt htw hx
    by_cases hlt : k < m.length
    · obtain ⟨p, hp⟩ : ∃ p, m[k]? = some p := ⟨_, List.getElem?_eq_getElem hlt⟩
      obtain ⟨b', off, rfl, hbl, r0, r1, r2⟩ := pt_row HSV.out hp
      have HP := Lib.hid hp
      have hpl : p ∈ l := (HLM.out p).1 (List.mem_of_getElem? hp)
      have HPL := Lib.hid hpl
      obtain ⟨As, cs, hse, hsl, hsb⟩ := own_sv HT.out.s
      subst hse
      have HH := Lib.hid (Has_any As cs zs p wr hsl)
      have HAP0 := Lib.hid hsb
      clear hp hpl hsl hsb
      by_cases hin : p ∈ zs
      · rw [decide_eq_true hin] at HH
        have HIN := Lib.hid hin; clear hin
        go_wp2_with (go_at_call 28; refine HH.out.mono ?_; rintro e w3 ⟨rfl, x3⟩)
        have HX3 := Lib.hid (HX.out.trans x3); have HT3 := Lib.hid (HT.out.ext x3)
        clear x3
        go_roundw
        case rel => exact ⟨k + 1, ps, vs, _, _, zs, by go_num, rfl, rfl, by omega, HPT.out.skip HP.out (HZS.out ▸ HIN.out), HT3.out, HZS.out, HX3.out⟩
        case measure => simp [intOf]; omega
      · rw [decide_eq_false hin] at HH
        have HNE := Lib.hid hin; clear hin
        go_upto_region 9 with (go_at_call 28; refine HH.out.mono ?_; rintro e w3 ⟨rfl, x3⟩)
        have HX3 := Lib.hid (HX.out.trans x3); have HT3 := Lib.hid (HT.out.ext x3); have HSV3 := Lib.hid (HSV.out.ext x3)
        have r0 := (x3.cell hbl).trans r0
        have r1 := (x3.cell hbl).trans r1
        have r2 := (x3.cell hbl).trans r2
        have hbl := Nat.lt_of_lt_of_le hbl x3.size
        clear x3 HX HT HSV HH HAP0
        have hw3 := HX3.out.size
        have hsz4 : (w3.alloc (.cells #[.int .i64 p.x, .int .i64 p.y, .int .i64 p.z] 23)).heap.size = w3.heap.size + 1 := by simp
        have hs1 : Sv (w3.alloc (.cells #[.int .i64 p.x, .int .i64 p.y, .int .i64 p.z] 23)) (w3.alloc (.cells #[.int .i64 p.x, .int .i64 p.y, .int .i64 p.z] 23)).heap.size 3 (some ⟨w3.heap.size, 0, none⟩) 1 (rowsP [p]) :=
          ⟨Nat.le_refl _, by decide, rowsP_rwk _, fun _ => ⟨w3.heap.size, 0, rfl, by simp, fun j u hu => by
            rw [Nat.zero_add, cell_of_row _ _ _ _ _ _ (heap_alloc_new w3 _)]
            simpa [rowsP, Pt.cells] using hu⟩⟩
        have hx4 : Ext w3 (w3.alloc (.cells #[.int .i64 p.x, .int .i64 p.y, .int .i64 p.z] 23)) := (Ext.refl _).alloc _
        have HOB := Lib.hid (fun b hb => (HT3.out.o.row.lt b hb).2)
        have HSB := Lib.hid (fun b hb => (HT3.out.s.lt b hb).2)
        have HX4 := Lib.hid (HX3.out.trans hx4); have HT4 := Lib.hid (HT3.out.ext hx4); have HSV4 := Lib.hid (HSV3.out.ext hx4); have HS1 := Lib.hid hs1
        clear hs1 hx4
        go_upto_region 11 with (refine wpList_buildRow rfl 31 23 31 rfl 3 (by decide) (by decide) ([.int .i64 p.x, .int .i64 p.y, .int .i64 p.z]) rfl rfl Tryd.underlying31 (by kernel_rfl) (by kernel_rfl) ?_)
        obtain ⟨pb, hpb⟩ : ∃ pb, pb = w3.heap.size := ⟨_, rfl⟩
        obtain ⟨W4, hW⟩ : ∃ W, W = w3.alloc (.cells #[.int .i64 p.x, .int .i64 p.y, .int .i64 p.z] 23) := ⟨_, rfl⟩
        rw [← hW] at HX4 HT4 HSV4 HS1 hsz4
        rw [← hW, ← hpb]
        rw [← hpb] at HS1 hsz4 hw3 HOB HSB
        clear hW hpb r0 r1 r2 hbl HX3 HT3 HSV3
        go_loopw [8, 9] (fun lv gr wr => ∃ (r : List Pt) (A' : Option Addr) (c' : Nat) (gb : Bool), lv = .slice A' r.length c' ∧ gr = .bool gb ∧ Sv wr wr.heap.size 3 A' c' (rowsP r) ∧ GoodS l p r ∧ (gb = false → ClosedS m r m.length) ∧ (∀ a : Addr, A' = some a → pb ≤ a.block) ∧ Ext W4 wr) (fun lv gr _ => 2 * (l.length + 1 - lenOf lv) + boolN gr)
        case atStart => exact ⟨[p], _, 1, true, rfl, rfl, HS1.out, ⟨List.pairwise_singleton .., by simp, fun q hq => by simp at hq; subst hq; exact .base⟩, (fun h => by cases h), (fun a ha => by injection ha with ha; subst ha; exact Nat.le_refl _), Ext.refl _⟩
        case round =>
          obtain ⟨r0, A0, c0, gb0, rfl, rfl, hs0, hg0, hcl0, hfr0, hx0⟩ := hrel
          have hl0 := hg0.len HPL.out
          have HS0 := Lib.hid hs0; have HG0 := Lib.hid hg0; have HCL := Lib.hid hcl0; have HFR := Lib.hid hfr0; have HX0 := Lib.hid hx0
          clear hs0 hg0 hcl0 hfr0 hx0
          cases gb0
          · have hreg := HG0.out.isReg HPL.out HLM.out HSM.out (HCL.out rfl)
            have HRG := Lib.hid hreg
            have hxw := HX0.out
            have HX5 := Lib.hid (HX4.out.trans hxw); have HT5 := Lib.hid (HT4.out.ext hxw)
            have hsw := hxw.size
            have hbase : bs ≤ wr.heap.size := by have := HBS.out; omega
            have hab : ∀ a : Addr, A0 = some a → a.block < wr.heap.size := fun a ha => by
              obtain ⟨b, off2, e, hb, _⟩ := HS0.out.mem (by rw [rowsP_length]; exact List.length_pos_of_mem HG0.out.mem)
              rw [e] at ha; injection ha with ha; subst ha; exact hb
            have HAB := Lib.hid hab
            obtain ⟨i0, hi, hz0, hz1, hz2⟩ := info_parts infoPt
            have HI := Lib.hid hi; have HZ := Lib.hid hz0; have HZ1 := Lib.hid hz1; have HZ2 := Lib.hid hz2; clear hi hz0 hz1 hz2
            clear hreg hxw hab HCL HX0 HX4 HT4 HSV4 HS1
            go_wp2_with (at_builtin; refine wpList_append_sv _ rfl (.tmp 63) (.tmp 64) 31 rfl bs 23 i0 (.agg #[.int .i64 0, .int .i64 0, .int .i64 0]) 3 24 Tryd.underlying31 HI.out HZ.out HZ1.out HZ2.out rfl (by decide) _ zs.length _ rfl HT5.out.s _ A0 r0.length c0 (rowsP r0) rfl HS0.out (rowsP_length r0) (by unfold maxLen; omega) (by omega) hbase ?_)
            intro v6 w6 ho6 hg6 hv6
            have low6 := own_low HT5.out.s
            have HT6 := Lib.hid (HT5.out.seen hg6 ho6 hv6)
            have HS6 := Lib.hid (HS0.out.grown hg6 (fun a ha e => by have h1 := HSB.out _ e; have h2 := HFR.out a ha; omega))
            have HX6 := Lib.hid (HX5.out.grown hg6 (fun b hb => by have := low6 b hb; have := HBS.out; omega))
            have HSA := Lib.hid (show ∀ a : Addr, A0 = some a → v6.ownBlock ≠ some a.block from fun a ha e => by
              rcases hv6 with hv | hv
              · rw [hv] at e; have h1 := HSB.out _ e; have h2 := HFR.out a ha; omega
              · rw [hv] at e; injection e with e; have := HAB.out a ha; omega)
            have hsz6 := hg6.size
            clear ho6 hg6 hv6 low6 HS0 HX5 HT5
            obtain ⟨j0, hi, hz0, hz1, hz2⟩ := info_parts infoSl
            have JI := Lib.hid hi; have JZ := Lib.hid hz0; have JZ1 := Lib.hid hz1; have JZ2 := Lib.hid hz2; clear hi hz0 hz1 hz2
            have hx7 : Ext w6 (w6.alloc (.cells #[.slice A0 r0.length c0] 31)) := (Ext.refl _).alloc _
            have hsn : Sv (w6.alloc (.cells #[.slice A0 r0.length c0] 31)) (w6.alloc (.cells #[.slice A0 r0.length c0] 31)).heap.size 1 (some ⟨w6.heap.size, 0, none⟩) 1 [[.slice A0 r0.length c0]] :=
              ⟨Nat.le_refl _, by decide, fun x hx => by simp only [List.mem_singleton] at hx; subst hx; exact ⟨rfl, fun u hu => by simp only [List.mem_singleton] at hu; subst hu; rfl⟩, fun _ => ⟨w6.heap.size, 0, rfl, by simp, fun j u hu => by
                rw [Nat.zero_add, cell_of_row _ _ _ _ _ _ (heap_alloc_new w6 _)]
                simpa using hu⟩⟩
            have HT7 := Lib.hid (HT6.out.ext hx7); have HS7 := Lib.hid (HS6.out.ext hx7); have HX7 := Lib.hid (HX6.out.trans hx7); have HSN := Lib.hid hsn
            have hsz7 := hx7.size
            have hbase7 : bs ≤ (w6.alloc (.cells #[.slice A0 r0.length c0] 31)).heap.size := by omega
            clear hx7 hsn HT6 HS6 HX6
            go_wp2_with (at_builtin; refine wpList_append_sv _ rfl (.tmp 66) (.tmp 68) 46 rfl bs 31 j0 (.slice none 0 0) 1 24 Tryd.underlying46 JI.out JZ.out JZ1.out JZ2.out rfl (by decide) ov ps.length vs rfl HT7.out.o.row _ _ 1 1 _ rfl HSN.out rfl (by unfold maxLen; omega) (by omega) hbase7 ?_)
            intro v8 w8 ho8 hg8 hv8
            have low8 := own_low HT7.out.o.row
            have HT8 := Lib.hid (HT7.out.push hg8 ho8 (by rw [World.size_alloc_]; exact hv8) HS7.out (fun a ha => ⟨⟨by have h1 := HFR.out a ha; have := HBS.out; omega, by have := HAB.out a ha; omega⟩, fun e => by have h1 := HOB.out _ e; have h2 := HFR.out a ha; omega⟩) HSA.out)
            have HX8 := Lib.hid (HX7.out.grown hg8 (fun b hb => by have := low8 b hb; have := HBS.out; omega))
            clear ho8 hg8 hv8 low8 HT7 HX7 HS7 HSN
            go_wp2
            go_roundw
            case rel => exact ⟨k + 1, ps ++ [r0], _, _, _, zs ++ r0, by go_num, rfl, rfl, by omega, HPT.out.add HP.out (HZS.out ▸ HNE.out) HRG.out, HT8.out, by rw [HZS.out]; simp, HX8.out⟩
            case measure => simp [intOf]; omega
          · obtain ⟨wo, hwo⟩ : ∃ wo : World, wo = wr := ⟨_, rfl⟩
            rw [← hwo] at HS0 HX0
            rw [← hwo]
            clear hwo
            go_wp2_with fail
            go_loopw [8, 9, 10] (fun lv gr i wi => ∃ (r : List Pt) (A' : Option Addr) (c' k2 : Nat) (gb : Bool), lv = .slice A' r.length c' ∧ gr = .bool gb ∧ i = .int .i64 k2 ∧ k2 ≤ m.length ∧ Sv wi wi.heap.size 3 A' c' (rowsP r) ∧ PassS l m p r0 r gb k2 ∧ (∀ a : Addr, A' = some a → pb ≤ a.block) ∧ Ext wo wi) (fun _ _ i _ => m.length - (intOf i).toNat)
            case atStart => exact ⟨r0, A0, c0, 0, false, rfl, rfl, rfl, Nat.zero_le _, HS0.out, ⟨HG0.out, fun h => absurd h (by simp), fun _ => ⟨rfl, fun j q hj => absurd hj (by omega)⟩⟩, HFR.out, Ext.refl _⟩
            case round =>
              obtain ⟨r, A', c', k2, gb, rfl, rfl, rfl, hk2, hsl, hp, hfr, hx⟩ := hrel
              have hll := hp.good.len HPL.out
              have HSL := Lib.hid hsl; have HPS := Lib.hid hp; have HX := Lib.hid hx; have HFR2 := Lib.hid hfr
              have HXA := Lib.hid (HX0.out.trans hx)
              clear hsl hp hx hfr
              by_cases hlt2 : k2 < m.length
              · obtain ⟨q, hq⟩ : ∃ q, m[k2]? = some q := ⟨_, List.getElem?_eq_getElem hlt2⟩
                obtain ⟨b2, off2, hA, hbl, s0, s1, s2⟩ := pt_row (HSV4.out.ext HXA.out) hq
                cases hA
                have hql : q ∈ l := (HLM.out q).1 (List.mem_of_getElem? hq)
                have HKP := Lib.hid (fun h1 => HPS.out.keep (k := k2) hq h1)
                have HGR := Lib.hid (fun h1 h2 => HPS.out.grow (k := k2) HPL.out hql HSM.out h1 h2)
                have HH := Lib.hid (fun (w' : World) (hx : Ext wr w') => Has_any A' c' r q w' (HSL.out.ext hx))
                have HTO := Lib.hid (fun (w' : World) (hx : Ext wr w') => touches_any A' c' r q w' (HSL.out.ext hx))
                generalize hbt : decide (q ∈ r) = bt at HH
                generalize hbn : (r.any fun y => nearW y q) = bn at HTO HKP HGR
                have HBT := Lib.hid hbt
                clear hbt hbn hq hql HPS
                go_upto_region 17 with (go_at_call 28; refine (HH.out _ (Ext.refl _)).mono ?_; rintro e W5 ⟨rfl, x5⟩)
                have s0 := (x5.cell hbl).trans s0
                have s1 := (x5.cell hbl).trans s1
                have s2 := (x5.cell hbl).trans s2
                have hbl := Nat.lt_of_lt_of_le hbl x5.size
                go_upto_region 18 with (go_at_call 38; refine (HTO.out _ x5).mono ?_; rintro e W6 ⟨rfl, x6⟩)
                have hx6 := x5.trans x6
                have s0 := (x6.cell hbl).trans s0
                have s1 := (x6.cell hbl).trans s1
                have s2 := (x6.cell hbl).trans s2
                have hbl := Nat.lt_of_lt_of_le hbl x6.size
                have HXB := Lib.hid (HX.out.trans hx6)
                have HSL6 := Lib.hid (HSL.out.ext hx6)
                clear x5 x6 hx6 HH HTO
                have hcase : (bt = true ∨ (bt = false ∧ bn = false)) ∨ (bt = false ∧ bn = true) := by cases bt <;> cases bn <;> simp
                rcases hcase with h1 | ⟨rfl, rfl⟩
                · have HK := Lib.hid (HKP.out (h1.elim (fun h => .inl (of_decide_eq_true (HBT.out.trans h))) (fun h => .inr h.2)))
                  rcases h1 with rfl | ⟨rfl, rfl⟩ <;>
                  · go_wp2
                    go_roundw
                    case rel => exact ⟨r, A', c', k2 + 1, gb, rfl, rfl, by go_num, by omega, HSL6.out, HK.out, HFR2.out, HXB.out⟩
                    case measure => simp [intOf]; omega
                · have HK := Lib.hid (HGR.out (by simpa using HBT.out) rfl)
                  have hb2 : r.length ≤ 100000 := by omega
                  have HPUT := Lib.hid (Put_fresh A' c' r q W6 HSL6.out hb2)
                  have hpw : pb ≤ W6.heap.size := by have h1 := HXB.out.size; have h2 := HX0.out.size; omega
                  go_wp2_with (go_at_call 39; refine HPUT.out.mono ?_; rintro e W7 ⟨A7, c7, rfl, s7, f7, x7⟩)
                  go_roundw
                  case rel => exact ⟨putL r q, A7, c7, k2 + 1, true, rfl, rfl, by go_num, by omega, s7, HK.out, fun a ha => by rcases f7 with rfl | f7; exact HFR2.out a ha; exact Nat.le_trans hpw (f7 a ha), HXB.out.trans x7⟩
                  case measure => simp [intOf]; omega
              · obtain rfl : k2 = m.length := by omega
                cases gb
                · obtain ⟨rfl, hcl⟩ := HPS.out.same rfl
                  have HCL := Lib.hid hcl
                  clear hcl
                  go_wp2
                  go_roundw
                  case rel => exact ⟨r, A', c', false, rfl, rfl, HSL.out, HPS.out.good, fun _ => HCL.out, HFR2.out, HXA.out⟩
                  case measure => simp [lenOf, boolN]
                · have hmore := HPS.out.more rfl
                  go_wp2
                  go_roundw
                  case rel => exact ⟨r, A', c', true, rfl, rfl, HSL.out, HPS.out.good, fun h => (by cases h), HFR2.out, HXA.out⟩
                  case measure => simp [lenOf, boolN]; omega
    · obtain rfl : k = m.length := by omega
      obtain ⟨A9, n9, c9, rfl⟩ := store_form HT.out.o.row
      go_wp2
      go_ret
      have hn : n9 = ps.length := by obtain ⟨A', c', e, _⟩ := own_form (xs := vs.map ([·])) (by rw [single_flat]; exact HT.out.o.row); injection e
      subst hn
      exact ⟨ps, vs, A9, c9, ⟨m, HSD.out, HPT.out⟩, rfl, HT.out.o.sv rfl, HX2.out.trans HX.out⟩
end Go.Proofs.YtelhefjikdoihaaDoor

/- Flood, Border, Joined asked of a grid; at; regions checked by computing. -/
namespace Go.Proofs.YtelhefjikdoihaaDoor
open Go Go.RowKit

/-- It hands back a slice of points and a code, as P says; the world before wb is as it was; the field has been asked few times. -/
def RetG (P : List Pt → Int → Prop) (most : Int) (g : Gr) (A : Option Addr) (c fb : Nat) (wb : World) (en : Ending) (w' : World) : Prop :=
  ∃ (l : List Pt) (er : Int) (A' : Option Addr) (c' k : Nat), P l er ∧ ((k : Int) ≤ 1 + 6 * max most 0) ∧ en = .returned (.tuple #[.slice A' l.length c', .int .i64 er]) ∧ Sv w' w'.heap.size 3 A' c' (rowsP l) ∧ CntF g A c fb k w' ∧ Ext wb w'
section
variable {g : Gr} {A : Option Addr} {c fb : Nat} {wb w : World}
theorem retQ_G {P : List Pt → Int → Prop} {most : Int} {en : Ending} {w' : World} (h : RetQ P most (some fb) (CntF g A c fb) w en w') (hx : Ext wb w) (hfb : wb.heap.size ≤ fb) : RetG P most g A c fb wb en w' := by
  obtain ⟨l, er, k, v, h1, h2, rfl, ho, hc, hg⟩ := h
  obtain ⟨A', c', rfl, hs, _⟩ := own_sv ho
  exact ⟨l, er, A', c', k, h1, h2, rfl, hs, hc, hx.grown hg (fun b hb => by injection hb with hb; omega)⟩
theorem floodG_any (hv : validG g = true) (h200 : g.cells.length ≤ 200) (hc : CntF g A c fb 0 w) (hx : Ext wb w) (hfb : wb.heap.size ≤ fb) (hst : StepsIn wb) (a : Pt) (most : Int) :
    Calls Tryd.prog 10 #[.iface 35 (.pointer (some ⟨fb, 0, none⟩)), .agg #[.int .i64 a.x, .int .i64 a.y, .int .i64 a.z], .int .i64 most] w (RetG (FloodOut (fld g) a most) most g A c fb wb) :=
  (fillFlood_any (field_V g hv A c fb w.heap.size hc.blk.lt) (hst.ext hx) (fun e => by injection e with e; have := hst.lt; omega) a most g.cells.length (by omega) (fld_fin g hv) (fld_small g hv) hc).mono fun _ _ h => retQ_G h hx hfb
theorem borderG_any (hv : validG g = true) (h200 : g.cells.length ≤ 200) (hc : CntF g A c fb 0 w) (hx : Ext wb w) (hfb : wb.heap.size ≤ fb) (hst : StepsIn wb) (a : Pt) (most : Int) :
    Calls Tryd.prog 15 #[.iface 35 (.pointer (some ⟨fb, 0, none⟩)), .agg #[.int .i64 a.x, .int .i64 a.y, .int .i64 a.z], .int .i64 most] w (RetG (BorderOut (fld g) a most) most g A c fb wb) :=
  (fillBorder_any (field_V g hv A c fb w.heap.size hc.blk.lt) (hst.ext hx) (fun e => by injection e with e; have := hst.lt; omega) a most g.cells.length (by omega) (fld_fin g hv) (fld_small g hv) hc).mono fun _ _ h => retQ_G h hx hfb
theorem joinedG_any (hv : validG g = true) (h200 : g.cells.length ≤ 200) (hc : CntF g A c fb 0 w) (hx : Ext wb w) (hfb : wb.heap.size ≤ fb) (hst : StepsIn wb) (a b : Pt) (most : Int) :
    Calls Tryd.prog 13 #[.iface 35 (.pointer (some ⟨fb, 0, none⟩)), .agg #[.int .i64 a.x, .int .i64 a.y, .int .i64 a.z], .agg #[.int .i64 b.x, .int .i64 b.y, .int .i64 b.z], .int .i64 most] w fun e w' => ∃ l er, FloodOut (fld g) a most l er ∧ e = .returned (.tuple #[.bool (decide (b ∈ l)), .int .i64 er]) ∧ Ext wb w' :=
  (fillJoined_any (field_V g hv A c fb w.heap.size hc.blk.lt) (hst.ext hx) (fun e => by injection e with e; have := hst.lt; omega) a b most g.cells.length (by omega) (fld_fin g hv) (fld_small g hv) hc).mono fun _ _ ⟨l, er, h1, h2, h3⟩ => ⟨l, er, h1, h2, hx.grown h3 (fun b hb => by injection hb with hb; omega)⟩
theorem floodG_known (hv : validG g = true) (h200 : g.cells.length ≤ 200) (hc : CntF g A c fb 0 w) (hx : Ext wb w) (hfb : wb.heap.size ≤ fb) (hst : StepsIn wb) (a : Pt) (most : Int) {l : List Pt} {er : Int} (hO : FloodOut (fld g) a most l er) :
    Calls Tryd.prog 10 #[.iface 35 (.pointer (some ⟨fb, 0, none⟩)), .agg #[.int .i64 a.x, .int .i64 a.y, .int .i64 a.z], .int .i64 most] w fun e w' => ∃ A' c', e = .returned (.tuple #[.slice A' l.length c', .int .i64 er]) ∧ Sv w' w'.heap.size 3 A' c' (rowsP l) ∧ Ext wb w' :=
  (floodG_any hv h200 hc hx hfb hst a most).mono fun _ _ ⟨l', er', A', c', k, h1, _, h3, h4, _, h6⟩ => by
    obtain ⟨rfl, rfl⟩ := h1.uniq hO
    exact ⟨A', c', h3, h4, h6⟩
theorem borderG_known (hv : validG g = true) (h200 : g.cells.length ≤ 200) (hc : CntF g A c fb 0 w) (hx : Ext wb w) (hfb : wb.heap.size ≤ fb) (hst : StepsIn wb) (a : Pt) (most : Int) {l : List Pt} {er : Int} (hO : BorderOut (fld g) a most l er) :
    Calls Tryd.prog 15 #[.iface 35 (.pointer (some ⟨fb, 0, none⟩)), .agg #[.int .i64 a.x, .int .i64 a.y, .int .i64 a.z], .int .i64 most] w fun e w' => ∃ A' c', e = .returned (.tuple #[.slice A' l.length c', .int .i64 er]) ∧ Sv w' w'.heap.size 3 A' c' (rowsP l) ∧ Ext wb w' :=
  (borderG_any hv h200 hc hx hfb hst a most).mono fun _ _ ⟨l', er', A', c', k, h1, _, h3, h4, _, h6⟩ => by
    obtain ⟨rfl, rfl⟩ := h1.uniq hO
    exact ⟨A', c', h3, h4, h6⟩
theorem joinedG_known (hv : validG g = true) (h200 : g.cells.length ≤ 200) (hc : CntF g A c fb 0 w) (hx : Ext wb w) (hfb : wb.heap.size ≤ fb) (hst : StepsIn wb) (a b : Pt) (most : Int) {l : List Pt} {er : Int} (hO : FloodOut (fld g) a most l er) {r : Bool} (hr : decide (b ∈ l) = r) :
    Calls Tryd.prog 13 #[.iface 35 (.pointer (some ⟨fb, 0, none⟩)), .agg #[.int .i64 a.x, .int .i64 a.y, .int .i64 a.z], .agg #[.int .i64 b.x, .int .i64 b.y, .int .i64 b.z], .int .i64 most] w fun e w' => e = .returned (.tuple #[.bool r, .int .i64 er]) ∧ Ext wb w' :=
  (joinedG_any hv h200 hc hx hfb hst a b most).mono fun _ _ ⟨l', er', h1, h2, h3⟩ => by
    obtain ⟨rfl, rfl⟩ := h1.uniq hO
    exact ⟨by rw [← hr]; exact h2, h3⟩
end
set_option maxHeartbeats 1000000 in
theorem at_any (x y z : Int) (w : World) :
    Calls Tryd.prog 30 #[.int .i64 x, .int .i64 y, .int .i64 z] w fun e w' => e = .returned (.agg #[.int .i64 x, .int .i64 y, .int .i64 z]) ∧ Ext w w' := by
  go_enter Tryd.func30, Tryd.ntmps30
  go_wp2
  (try simp only [Exit.inBlock, Exit.then])
  refine bodyPost_ret (v := .agg #[.int .i64 x, .int .i64 y, .int .i64 z]) ?_ rfl ⟨rfl, (by repeat (first | with_reducible exact Ext.refl _ | with_reducible assumption | with_reducible refine Ext.alloc ?_ _ | with_reducible refine Ext.drew ?_ | (with_reducible refine Ext.setCell ?_ ?_ _; rotate_left; focus (first | (simp; done) | (simp; omega) | omega)) | (with_reducible refine Ext.setRow ?_ ?_ _; rotate_left; focus (first | (simp; done) | (simp; omega) | omega)) | with_reducible refine Ext.trans ?_ (by with_reducible assumption)))⟩
  exact results_cell_row Tryd.results30 _ _ _ _ _ _ _ rfl (Arr.new w 23 [.int .i64 x, .int .i64 y, .int .i64 z]) Tryd.underlying23 rfl (by kernel_rfl)
/-! ### by computing -/
def nbrs (p : Pt) : List Pt := [⟨p.x + 1, p.y, p.z⟩, ⟨p.x - 1, p.y, p.z⟩, ⟨p.x, p.y + 1, p.z⟩, ⟨p.x, p.y - 1, p.z⟩, ⟨p.x, p.y, p.z + 1⟩, ⟨p.x, p.y, p.z - 1⟩]
theorem adj_nbrs {p q : Pt} : adj p q ↔ q ∈ nbrs p := by
  obtain ⟨px, py, pz⟩ := p
  obtain ⟨qx, qy, qz⟩ := q
  simp only [adj, nbrs, List.mem_cons, List.not_mem_nil, or_false, Pt.mk.injEq]
  omega
def sortB : List Pt → Bool
  | [] => true
  | x :: xs => xs.all (fun y => befP x y) && sortB xs
theorem sortB_spec : ∀ {l : List Pt}, sortB l = true → SortP l
  | [], _ => List.Pairwise.nil
  | x :: xs, h => by
    unfold sortB at h
    rw [Bool.and_eq_true, List.all_eq_true] at h
    exact List.pairwise_cons.2 ⟨h.1, sortB_spec h.2⟩
/-- Each cell of the list, but the first, is a neighbour of one that came before it. -/
def chainB (F : Pt → Option Int) (c : Int) : List Pt → List Pt → Bool
  | _, [] => true
  | done, q :: qs => done.any (fun p => decide (q ∈ nbrs p)) && decide (F q = some c) && chainB F c (done ++ [q]) qs
theorem chainB_spec {F : Pt → Option Int} {c : Int} {a : Pt} : ∀ {qs done : List Pt}, chainB F c done qs = true → (∀ p, p ∈ done → Reach F c a p) → ∀ q, q ∈ qs → Reach F c a q
  | [], _, _, _ => by simp
  | q :: qs, done, h, hd => by
    unfold chainB at h
    simp only [Bool.and_eq_true, List.any_eq_true, decide_eq_true_eq] at h
    obtain ⟨⟨⟨p, hp, h1⟩, h2⟩, h3⟩ := h
    have hq : Reach F c a q := (hd p hp).step (adj_nbrs.2 h1) h2
    intro r hr
    rcases List.mem_cons.1 hr with rfl | hr
    · exact hq
    · exact chainB_spec h3 (fun p hp => by
        rcases List.mem_append.1 hp with hp | hp
        · exact hd p hp
        · simp only [List.mem_singleton] at hp; subst hp; exact hq) r hr
/-- l is the region of a: checked by computing; qs is l without a, in the order in which its cells are reached. -/
theorem isReg_check (F : Pt → Option Int) (c : Int) (a : Pt) (l qs : List Pt) (h1 : sortB l = true) (h2 : chainB F c [a] qs = true) (h3 : (l.all fun q => decide (q ∈ a :: qs)) = true) (h4 : (decide (a ∈ l) && l.all fun p => (nbrs p).all fun q => decide (F q ≠ some c) || decide (q ∈ l)) = true) : IsReg F c a l := by
  rw [List.all_eq_true] at h3
  rw [Bool.and_eq_true, decide_eq_true_eq, List.all_eq_true] at h4
  refine ⟨sortB_spec h1, fun q => ⟨fun hq => ?_, fun hq => ?_⟩⟩
  · have h := of_decide_eq_true (h3 q hq)
    rcases List.mem_cons.1 h with rfl | h
    · exact .base
    · exact chainB_spec h2 (fun p hp => by simp only [List.mem_singleton] at hp; subst hp; exact .base) q h
  · induction hq with
    | base => exact h4.1
    | @step p q hp ha hF ih =>
      have h := h4.2 p ih
      rw [List.all_eq_true] at h
      have h := h q (adj_nbrs.1 ha)
      simpa [hF] using h
theorem isBrd_check {F : Pt → Option Int} {c : Int} {a : Pt} {r : List Pt} (hr : IsReg F c a r) (l : List Pt) (h1 : sortB l = true) (h2 : (l.all fun q => (match F q with | some v => decide (v ≠ c) | none => false) && r.any fun p => decide (q ∈ nbrs p)) = true)
    (h3 : (r.all fun p => (nbrs p).all fun q => (match F q with | some v => decide (v = c) | none => true) || decide (q ∈ l)) = true) : IsBrd F c a l := by
  rw [List.all_eq_true] at h2 h3
  refine ⟨sortB_spec h1, fun q => ⟨fun hq => ?_, fun ⟨⟨v, hv, hne⟩, p, hp, ha⟩ => ?_⟩⟩
  · have h := h2 q hq
    rw [Bool.and_eq_true, List.any_eq_true] at h
    obtain ⟨h, p, hp, hn⟩ := h
    refine ⟨?_, p, (hr.mem p).1 hp, adj_nbrs.2 (of_decide_eq_true hn)⟩
    cases hF : F q with
    | none => rw [hF] at h; cases h
    | some v => rw [hF] at h; exact ⟨v, rfl, of_decide_eq_true h⟩
  · have h := h3 p ((hr.mem p).2 hp)
    rw [List.all_eq_true] at h
    have h := h q (adj_nbrs.1 ha)
    rw [hv] at h
    simpa [hne] using h
def g0 : Gr := ⟨⟨⟨0, 0, 0⟩, ⟨6, 1, 1⟩⟩, [2, 2, 1, 2, 2, 2]⟩
theorem g0_valid : validG g0 = true := by decide +kernel
theorem reg_a : IsReg (fld g0) 2 ⟨4, 0, 0⟩ [⟨3, 0, 0⟩, ⟨4, 0, 0⟩, ⟨5, 0, 0⟩] := isReg_check _ _ _ _ [⟨3, 0, 0⟩, ⟨5, 0, 0⟩] (by decide +kernel) (by decide +kernel) (by decide +kernel) (by decide +kernel)
theorem reg_b : IsReg (fld g0) 2 ⟨0, 0, 0⟩ [⟨0, 0, 0⟩, ⟨1, 0, 0⟩] := isReg_check _ _ _ _ [⟨1, 0, 0⟩] (by decide +kernel) (by decide +kernel) (by decide +kernel) (by decide +kernel)
theorem brd_a : IsBrd (fld g0) 2 ⟨4, 0, 0⟩ [⟨2, 0, 0⟩] := isBrd_check reg_a _ (by decide +kernel) (by decide +kernel) (by decide +kernel)
theorem out_a : FloodOut (fld g0) ⟨4, 0, 0⟩ 3 [⟨3, 0, 0⟩, ⟨4, 0, 0⟩, ⟨5, 0, 0⟩] 0 := .inr ⟨2, by decide +kernel, .inr ⟨reg_a, by decide, rfl⟩⟩
theorem out_f : FloodOut (fld g0) ⟨4, 0, 0⟩ 2 [] 2 := .inr ⟨2, by decide +kernel, .inl ⟨reg_a.big (by decide), rfl, rfl⟩⟩
theorem out_h : FloodOut (fld g0) ⟨6, 0, 0⟩ 9 [] 9 := .inl ⟨by decide +kernel, rfl, rfl⟩
theorem out_j : FloodOut (fld g0) ⟨0, 0, 0⟩ 9 [⟨0, 0, 0⟩, ⟨1, 0, 0⟩] 0 := .inr ⟨2, by decide +kernel, .inr ⟨reg_b, by decide, rfl⟩⟩
theorem out_b : BorderOut (fld g0) ⟨4, 0, 0⟩ 9 [⟨2, 0, 0⟩] 0 := .inr ⟨2, by decide +kernel, .inr ⟨⟨_, reg_a, by decide⟩, brd_a, rfl⟩⟩
def l4 : List Pt := [⟨1, 0, 0⟩, ⟨3, 0, 0⟩, ⟨2, 1, 0⟩, ⟨2, 0, 0⟩]
def m4 : List Pt := [⟨1, 0, 0⟩, ⟨2, 0, 0⟩, ⟨3, 0, 0⟩, ⟨2, 1, 0⟩]
theorem isSorted_check {l m : List Pt} (h1 : sortB m = true) (h2 : (m.all fun q => decide (q ∈ l)) = true) (h3 : (l.all fun q => decide (q ∈ m)) = true) : IsSorted l m := by
  rw [List.all_eq_true] at h2 h3
  exact ⟨sortB_spec h1, fun q => ⟨fun h => of_decide_eq_true (h2 q h), fun h => of_decide_eq_true (h3 q h)⟩⟩
theorem parts4 : IsParts l4 [m4] := by
  have hr : IsReg (setF l4) 1 ⟨1, 0, 0⟩ m4 := isReg_check _ _ _ _ [⟨2, 0, 0⟩, ⟨3, 0, 0⟩, ⟨2, 1, 0⟩] (by decide +kernel) (by decide +kernel) (by decide +kernel) (by decide +kernel)
  refine ⟨m4, isSorted_check (by decide +kernel) (by decide +kernel) (by decide +kernel), ?_⟩
  have h1 : PT l4 m4 1 [m4] := .add (ps := []) (k := 0) .zero rfl (by simp) hr
  have h2 : PT l4 m4 2 [m4] := h1.skip rfl (by decide +kernel)
  have h3 : PT l4 m4 3 [m4] := h2.skip rfl (by decide +kernel)
  exact h3.skip rfl (by decide +kernel)
theorem sorted3 : IsSorted [⟨0, 0, 1⟩, ⟨5, 0, 0⟩, ⟨0, 0, 1⟩] [⟨5, 0, 0⟩, ⟨0, 0, 1⟩] := isSorted_check (by decide +kernel) (by decide +kernel) (by decide +kernel)
theorem hull2 : hullL [⟨1, 2, 3⟩, ⟨4, 0, 3⟩] = ⟨⟨1, 0, 3⟩, ⟨5, 3, 4⟩⟩ := by decide +kernel
end Go.Proofs.YtelhefjikdoihaaDoor

/- sanity. -/
namespace Go.Proofs.YtelhefjikdoihaaDoor
open Go Go.RowKit

theorem CntF.ext {g : Gr} {A : Option Addr} {c fb n : Nat} {w w' : World} (h : CntF g A c fb n w) (hx : Ext w w') : CntF g A c fb n w' :=
  ⟨h.blk.ext hx, h.cells.keep (fun _p hp => hx.cell (Nat.lt_trans hp h.blk.lt))⟩
theorem sv_lit (l : List Pt) (h : l.length ≤ 1000) (w : World) : Sv (w.alloc (.cells (rowsP l).flatten.toArray 23)) (w.alloc (.cells (rowsP l).flatten.toArray 23)).heap.size 3 (some ⟨w.heap.size, 0, none⟩) l.length (rowsP l) :=
  ⟨by rw [rowsP_length]; exact Nat.le_refl _, by unfold maxLen; omega, rowsP_rwk _, fun _ => ⟨w.heap.size, 0, rfl, by simp, fun j u hu => by
    rw [Nat.zero_add, cell_of_row _ _ _ _ _ _ (heap_alloc_new w _)]
    simpa using hu⟩⟩
def smallB (p : Pt) : Bool := decide (-2000000 ≤ p.x) && decide (p.x ≤ 2000000) && decide (-2000000 ≤ p.y) && decide (p.y ≤ 2000000) && decide (-2000000 ≤ p.z) && decide (p.z ≤ 2000000)
theorem all_small {l : List Pt} (h : l.all smallB = true) : ∀ p, p ∈ l → Small p := fun p hp => by
  have h1 := List.all_eq_true.1 h p hp
  simp only [smallB, Bool.and_eq_true, decide_eq_true_eq] at h1
  exact ⟨⟨h1.1.1.1.1.1, h1.1.1.1.1.2⟩, ⟨h1.1.1.1.2, h1.1.1.2⟩, h1.1.2, h1.2⟩
theorem same_known (A A2 : Option Addr) (c c2 : Nat) (l : List Pt) (w : World) (hs : Sv w w.heap.size 3 A c (rowsP l)) (hs2 : Sv w w.heap.size 3 A2 c2 (rowsP l)) :
    Calls Tryd.prog 17 #[.slice A l.length c, .slice A2 l.length c2] w fun e w' => e = .returned (.bool true) ∧ Ext w w' :=
  (SameP_any A A2 c c2 l l w hs hs2).mono fun _ _ ⟨h1, h2⟩ => ⟨by rw [h1]; simp, h2⟩
theorem hull_known (A : Option Addr) (c : Nat) (w : World) (hs : Sv w w.heap.size 3 A c (rowsP [⟨1, 2, 3⟩, ⟨4, 0, 3⟩])) :
    Calls Tryd.prog 24 #[.slice A 2 c] w fun e w' => e = .returned (.agg #[.int .i64 (⟨⟨1, 0, 3⟩, ⟨5, 3, 4⟩⟩ : Bx).lo.x, .int .i64 (⟨⟨1, 0, 3⟩, ⟨5, 3, 4⟩⟩ : Bx).lo.y, .int .i64 (⟨⟨1, 0, 3⟩, ⟨5, 3, 4⟩⟩ : Bx).lo.z, .int .i64 (⟨⟨1, 0, 3⟩, ⟨5, 3, 4⟩⟩ : Bx).hi.x, .int .i64 (⟨⟨1, 0, 3⟩, ⟨5, 3, 4⟩⟩ : Bx).hi.y, .int .i64 (⟨⟨1, 0, 3⟩, ⟨5, 3, 4⟩⟩ : Bx).hi.z]) ∧ Ext w w' :=
  (fillHull_any A c [⟨1, 2, 3⟩, ⟨4, 0, 3⟩] w hs (all_small (by decide +kernel))).mono fun _ _ ⟨h1, h2⟩ => ⟨by rw [h1, hull2], h2⟩
theorem sorted_known (A : Option Addr) (c : Nat) (w : World) (hs : Sv w w.heap.size 3 A c (rowsP [⟨0, 0, 1⟩, ⟨5, 0, 0⟩, ⟨0, 0, 1⟩])) :
    Calls Tryd.prog 19 #[.slice A 3 c] w fun e w' => ∃ A' c', e = .returned (.slice A' 2 c') ∧ Sv w' w'.heap.size 3 A' c' (rowsP [⟨5, 0, 0⟩, ⟨0, 0, 1⟩]) ∧ Ext w w' :=
  (fillSorted_any A c [⟨0, 0, 1⟩, ⟨5, 0, 0⟩, ⟨0, 0, 1⟩] w hs (by decide)).mono fun _ _ ⟨m, v, h1, h2, h3, h4⟩ => by
    obtain rfl := h1.uniq sorted3
    obtain ⟨A', c', rfl, hs', _⟩ := own_sv h3
    exact ⟨A', c', h2, hs', h4⟩
theorem parts_known (A : Option Addr) (c : Nat) (w : World) (hst : StepsIn w) (hs : Sv w w.heap.size 3 A c (rowsP l4)) :
    Calls Tryd.prog 22 #[.slice A 4 c] w fun e w' => ∃ b off c' A2 c2, e = .returned (.slice (some ⟨b, off, none⟩) 1 c') ∧ b < w'.heap.size ∧ w'.cell? ⟨b, off, none⟩ = some (.slice A2 4 c2) ∧ Ext w w' :=
  (fillParts_any A c l4 w hst hs (by decide) (all_small (by decide +kernel))).mono fun _ _ ⟨ps, vs, A', c', h1, h2, h3, h4⟩ => by
    obtain rfl := h1.uniq parts4
    obtain ⟨b, off, A2, c2, rfl, hb, hr, _⟩ := h3.row (i := 0) (p := m4) rfl
    exact ⟨b, off, c', A2, c2, h2, hb, hr, h4⟩
set_option maxRecDepth 100000 in
set_option maxHeartbeats 8000000 in
theorem sanity_any (w : World) (hst : StepsIn w) :
    Calls Tryd.prog 8 #[] w fun e w' => e = .returned (.bool true) ∧ Ext w w' := by
  have hm := mixed
  have hG := near_old
  have HST := Lib.hid hst
  clear hst
  go_enter Tryd.func8, Tryd.ntmps8
  go_upto_region 2 with (go_at_call 30; refine (at_any 6 1 1 _).mono ?_; rintro e w1 ⟨rfl, x1⟩)
  obtain ⟨sb, hsb⟩ : ∃ sb, sb = w1.heap.size := ⟨_, rfl⟩
  have B0 := Arr.new (w1.alloc (.cells #[.int .i64 2, .int .i64 2, .int .i64 1, .int .i64 2, .int .i64 2, .int .i64 2] 3)) 28 [.int .i64 g0.box.lo.x, .int .i64 g0.box.lo.y, .int .i64 g0.box.lo.z, .int .i64 g0.box.hi.x, .int .i64 g0.box.hi.y, .int .i64 g0.box.hi.z, .slice (some ⟨sb, 0, none⟩) 6 6]
  have S0 : Sv (w1.alloc (.cells #[.int .i64 2, .int .i64 2, .int .i64 1, .int .i64 2, .int .i64 2, .int .i64 2] 3)) (w1.alloc (.cells #[.int .i64 2, .int .i64 2, .int .i64 1, .int .i64 2, .int .i64 2, .int .i64 2] 3)).heap.size 1 (some ⟨sb, 0, none⟩) 6 (rowsI g0.cells) :=
    ⟨by decide, by decide, rowsI_rwk _, fun _ => ⟨sb, 0, rfl, by simp [hsb], fun j u hu => by
      rw [Nat.zero_add, hsb, cell_of_row _ _ _ _ _ _ (heap_alloc_new w1 _)]
      simpa [rowsI, g0] using hu⟩⟩
  rw [World.size_alloc_, ← hsb] at B0
  have x2 : Ext w ((w1.alloc (.cells #[.int .i64 2, .int .i64 2, .int .i64 1, .int .i64 2, .int .i64 2, .int .i64 2] 3)).alloc (.cells #[.int .i64 g0.box.lo.x, .int .i64 g0.box.lo.y, .int .i64 g0.box.lo.z, .int .i64 g0.box.hi.x, .int .i64 g0.box.hi.y, .int .i64 g0.box.hi.z, .slice (some ⟨sb, 0, none⟩) 6 6] 28)) := (x1.alloc _).alloc _
  have S1 := S0.ext ((Ext.refl _).alloc (.cells #[.int .i64 g0.box.lo.x, .int .i64 g0.box.lo.y, .int .i64 g0.box.lo.z, .int .i64 g0.box.hi.x, .int .i64 g0.box.hi.y, .int .i64 g0.box.hi.z, .slice (some ⟨sb, 0, none⟩) 6 6] 28))
  have HG := Lib.hid B0; have HS := Lib.hid S1; have HX := Lib.hid x2
  clear B0 S0 S1 x1 x2
  rw [← hsb]
  clear hsb
  obtain ⟨W2, hW⟩ : ∃ W, W = (w1.alloc (.cells #[.int .i64 2, .int .i64 2, .int .i64 1, .int .i64 2, .int .i64 2, .int .i64 2] 3)).alloc (.cells #[.int .i64 g0.box.lo.x, .int .i64 g0.box.lo.y, .int .i64 g0.box.lo.z, .int .i64 g0.box.hi.x, .int .i64 g0.box.hi.y, .int .i64 g0.box.hi.z, .slice (some ⟨sb, 0, none⟩) 6 6] 28) := ⟨_, rfl⟩
  rw [show (.cells #[.int .i64 0, .int .i64 0, .int .i64 0, .int .i64 6, .int .i64 1, .int .i64 1, .slice (some ⟨sb, 0, none⟩) 6 6] 28 : Obj) = .cells #[.int .i64 g0.box.lo.x, .int .i64 g0.box.lo.y, .int .i64 g0.box.lo.z, .int .i64 g0.box.hi.x, .int .i64 g0.box.hi.y, .int .i64 g0.box.hi.z, .slice (some ⟨sb, 0, none⟩) 6 6] 28 from rfl]
  rw [← hW] at HG HS HX
  rw [← hW]
  clear hW
  go_upto_region 3 with (first
    | (refine wpList_load_blk 28 (.tmp 1) rfl rfl HG.out rfl _ Tryd.underlying28 rfl (by kernel_rfl) ?_)
    | (go_at_call 11; refine (of_any g0 _ 6 _ HS.out).mono ?_; rintro e wf ⟨fb, f1, f2, rfl, fc, fx⟩)
    | (go_at_call 30; refine (at_any 4 0 0 _).mono ?_; rintro e wa ⟨rfl, xa⟩)
    | (go_at_call 10; refine (floodG_known g0_valid (by decide) (fc.ext xa) (fx.trans xa) f1 (HST.out.ext HX.out) ⟨4, 0, 0⟩ 3 out_a).mono ?_; rintro e W3 ⟨Aa, ca, rfl, s3, xw⟩))
  have HSa := Lib.hid s3
  have HG := Lib.hid (HG.out.ext xw); have HS := Lib.hid (HS.out.ext xw); have HX := Lib.hid (HX.out.trans xw)
  clear s3 xw f1 f2 fc fx xa
  go_upto_region 4 with (first
    | (refine wpList_load_blk 28 (.tmp 1) rfl rfl HG.out rfl _ Tryd.underlying28 rfl (by kernel_rfl) ?_)
    | (go_at_call 11; refine (of_any g0 _ 6 _ HS.out).mono ?_; rintro e wf ⟨fb, f1, f2, rfl, fc, fx⟩)
    | (go_at_call 30; refine (at_any 4 0 0 _).mono ?_; rintro e wa ⟨rfl, xa⟩)
    | (go_at_call 10; refine (floodG_known g0_valid (by decide) (fc.ext xa) (fx.trans xa) f1 (HST.out.ext HX.out) ⟨4, 0, 0⟩ 2 out_f).mono ?_; rintro e W3 ⟨Ab, cb, rfl, s3, xw⟩))
  have HSa := Lib.hid (HSa.out.ext xw)
  have HSb := Lib.hid s3
  have HG := Lib.hid (HG.out.ext xw); have HS := Lib.hid (HS.out.ext xw); have HX := Lib.hid (HX.out.trans xw)
  clear s3 xw f1 f2 fc fx xa
  go_upto_region 5 with (first
    | (refine wpList_load_blk 28 (.tmp 1) rfl rfl HG.out rfl _ Tryd.underlying28 rfl (by kernel_rfl) ?_)
    | (go_at_call 11; refine (of_any g0 _ 6 _ HS.out).mono ?_; rintro e wf ⟨fb, f1, f2, rfl, fc, fx⟩)
    | (go_at_call 30; refine (at_any 6 0 0 _).mono ?_; rintro e wa ⟨rfl, xa⟩)
    | (go_at_call 10; refine (floodG_known g0_valid (by decide) (fc.ext xa) (fx.trans xa) f1 (HST.out.ext HX.out) ⟨6, 0, 0⟩ 9 out_h).mono ?_; rintro e W3 ⟨Ac, cc, rfl, s3, xw⟩))
  have HSa := Lib.hid (HSa.out.ext xw)
  have HSb := Lib.hid (HSb.out.ext xw)
  have HSc := Lib.hid s3
  have HG := Lib.hid (HG.out.ext xw); have HS := Lib.hid (HS.out.ext xw); have HX := Lib.hid (HX.out.trans xw)
  clear s3 xw f1 f2 fc fx xa
  go_upto_region 6 with (first
    | (refine wpList_load_blk 28 (.tmp 1) rfl rfl HG.out rfl _ Tryd.underlying28 rfl (by kernel_rfl) ?_)
    | (go_at_call 11; refine (of_any g0 _ 6 _ HS.out).mono ?_; rintro e wf ⟨fb, f1, f2, rfl, fc, fx⟩)
    | (go_at_call 30; refine (at_any 0 0 0 _).mono ?_; rintro e wa ⟨rfl, xa⟩)
    | (go_at_call 30; refine (at_any 3 0 0 _).mono ?_; rintro e wb ⟨rfl, xb⟩)
    | (go_at_call 13; refine (joinedG_known g0_valid (by decide) ((fc.ext xa).ext xb) ((fx.trans xa).trans xb) f1 (HST.out.ext HX.out) ⟨0, 0, 0⟩ ⟨3, 0, 0⟩ 9 out_j (r := false) (by decide +kernel)).mono ?_; rintro e W3 ⟨rfl, xw⟩))
  have HSa := Lib.hid (HSa.out.ext xw)
  have HSb := Lib.hid (HSb.out.ext xw)
  have HSc := Lib.hid (HSc.out.ext xw)
  have HG := Lib.hid (HG.out.ext xw); have HS := Lib.hid (HS.out.ext xw); have HX := Lib.hid (HX.out.trans xw)
  clear xw f1 f2 fc fx xa xb
  go_upto_region 7 with (first
    | (refine wpList_load_blk 28 (.tmp 1) rfl rfl HG.out rfl _ Tryd.underlying28 rfl (by kernel_rfl) ?_)
    | (go_at_call 11; refine (of_any g0 _ 6 _ HS.out).mono ?_; rintro e wf ⟨fb, f1, f2, rfl, fc, fx⟩)
    | (go_at_call 30; refine (at_any 0 0 0 _).mono ?_; rintro e wa ⟨rfl, xa⟩)
    | (go_at_call 30; refine (at_any 1 0 0 _).mono ?_; rintro e wb ⟨rfl, xb⟩)
    | (go_at_call 13; refine (joinedG_known g0_valid (by decide) ((fc.ext xa).ext xb) ((fx.trans xa).trans xb) f1 (HST.out.ext HX.out) ⟨0, 0, 0⟩ ⟨1, 0, 0⟩ 9 out_j (r := true) (by decide +kernel)).mono ?_; rintro e W3 ⟨rfl, xw⟩))
  have HSa := Lib.hid (HSa.out.ext xw)
  have HSb := Lib.hid (HSb.out.ext xw)
  have HSc := Lib.hid (HSc.out.ext xw)
  have HG := Lib.hid (HG.out.ext xw); have HS := Lib.hid (HS.out.ext xw); have HX := Lib.hid (HX.out.trans xw)
  clear xw f1 f2 fc fx xa xb
  go_upto_region 8 with (first
    | (refine wpList_load_blk 28 (.tmp 1) rfl rfl HG.out rfl _ Tryd.underlying28 rfl (by kernel_rfl) ?_)
    | (go_at_call 11; refine (of_any g0 _ 6 _ HS.out).mono ?_; rintro e wf ⟨fb, f1, f2, rfl, fc, fx⟩)
    | (go_at_call 30; refine (at_any 4 0 0 _).mono ?_; rintro e wa ⟨rfl, xa⟩)
    | (go_at_call 15; refine (borderG_known g0_valid (by decide) (fc.ext xa) (fx.trans xa) f1 (HST.out.ext HX.out) ⟨4, 0, 0⟩ 9 out_b).mono ?_; rintro e W3 ⟨Ad, cd, rfl, s3, xw⟩))
  have HSa := Lib.hid (HSa.out.ext xw)
  have HSb := Lib.hid (HSb.out.ext xw)
  have HSc := Lib.hid (HSc.out.ext xw)
  have HSd := Lib.hid s3
  have HG := Lib.hid (HG.out.ext xw); have HS := Lib.hid (HS.out.ext xw); have HX := Lib.hid (HX.out.trans xw)
  clear s3 xw f1 f2 fc fx xa
  go_upto_region 9 with (first
    | (go_at_call 30; refine (at_any 1 0 0 _).mono ?_; rintro e wa ⟨rfl, xa⟩)
    | (go_at_call 30; refine (at_any 3 0 0 _).mono ?_; rintro e wb ⟨rfl, xb⟩)
    | (go_at_call 30; refine (at_any 2 1 0 _).mono ?_; rintro e wc ⟨rfl, xc⟩)
    | (go_at_call 30; refine (at_any 2 0 0 _).mono ?_; rintro e wd ⟨rfl, xd⟩)
    | (go_at_call 22; refine (parts_known _ _ _ ((HST.out.ext HX.out).ext ((((xa.trans xb).trans xc).trans xd).alloc _)) (sv_lit l4 (by decide) wd)).mono ?_; rintro e W3 ⟨pb, po, pc, pA, pc2, rfl, plt, p0, xp⟩))
  have xw := ((((xa.trans xb).trans xc).trans xd).alloc (.cells (rowsP l4).flatten.toArray 23)).trans xp
  have HSa := Lib.hid (HSa.out.ext xw)
  have HSd := Lib.hid (HSd.out.ext xw)
  have HX := Lib.hid (HX.out.trans xw)
  clear xa xb xc xd xp xw HSb HSc HS HG
  go_upto_region 11 with fail
  clear p0 plt
  go_upto_region 12 with (first
    | (go_at_call 30; refine (at_any 3 0 0 _).mono ?_; rintro e wa ⟨rfl, xa⟩)
    | (go_at_call 30; refine (at_any 4 0 0 _).mono ?_; rintro e wb ⟨rfl, xb⟩)
    | (go_at_call 30; refine (at_any 5 0 0 _).mono ?_; rintro e wc ⟨rfl, xc⟩)
    | (go_at_call 17; refine (same_known _ _ _ _ [⟨3, 0, 0⟩, ⟨4, 0, 0⟩, ⟨5, 0, 0⟩] _ (HSa.out.ext (((xa.trans xb).trans xc).alloc _)) (sv_lit [⟨3, 0, 0⟩, ⟨4, 0, 0⟩, ⟨5, 0, 0⟩] (by decide) wc)).mono ?_; rintro e W4 ⟨rfl, xp⟩))
  have xw := (((xa.trans xb).trans xc).alloc (.cells (rowsP [⟨3, 0, 0⟩, ⟨4, 0, 0⟩, ⟨5, 0, 0⟩]).flatten.toArray 23)).trans xp
  have HSd := Lib.hid (HSd.out.ext xw)
  have HX := Lib.hid (HX.out.trans xw)
  clear xa xb xc xp xw HSa
  go_upto_region 13 with (first
    | (go_at_call 30; refine (at_any 2 0 0 _).mono ?_; rintro e wa ⟨rfl, xa⟩)
    | (go_at_call 17; refine (same_known _ _ _ _ [⟨2, 0, 0⟩] _ (HSd.out.ext (xa.alloc _)) (sv_lit [⟨2, 0, 0⟩] (by decide) wa)).mono ?_; rintro e W5 ⟨rfl, xp⟩))
  have xw := (xa.alloc (.cells (rowsP [⟨2, 0, 0⟩]).flatten.toArray 23)).trans xp
  have HX := Lib.hid (HX.out.trans xw)
  clear xa xp xw HSd
  go_upto_region 14 with (first
    | (go_at_call 30; refine (at_any 1 2 3 _).mono ?_; rintro e wa ⟨rfl, xa⟩)
    | (go_at_call 30; refine (at_any 4 0 3 _).mono ?_; rintro e wb ⟨rfl, xb⟩)
    | (go_at_call 24; refine (hull_known _ _ _ (sv_lit [⟨1, 2, 3⟩, ⟨4, 0, 3⟩] (by decide) wb)).mono ?_; rintro e W6 ⟨rfl, xp⟩))
  have xw := ((xa.trans xb).alloc (.cells (rowsP [⟨1, 2, 3⟩, ⟨4, 0, 3⟩]).flatten.toArray 23)).trans xp
  have HX := Lib.hid (HX.out.trans xw)
  clear xa xb xp xw
  have B7 := Arr.new W6 25 [.int .i64 (⟨⟨1, 0, 3⟩, ⟨5, 3, 4⟩⟩ : Bx).lo.x, .int .i64 (⟨⟨1, 0, 3⟩, ⟨5, 3, 4⟩⟩ : Bx).lo.y, .int .i64 (⟨⟨1, 0, 3⟩, ⟨5, 3, 4⟩⟩ : Bx).lo.z, .int .i64 (⟨⟨1, 0, 3⟩, ⟨5, 3, 4⟩⟩ : Bx).hi.x, .int .i64 (⟨⟨1, 0, 3⟩, ⟨5, 3, 4⟩⟩ : Bx).hi.y, .int .i64 (⟨⟨1, 0, 3⟩, ⟨5, 3, 4⟩⟩ : Bx).hi.z]
  have x7 : Ext W6 (W6.alloc (.cells #[.int .i64 (⟨⟨1, 0, 3⟩, ⟨5, 3, 4⟩⟩ : Bx).lo.x, .int .i64 (⟨⟨1, 0, 3⟩, ⟨5, 3, 4⟩⟩ : Bx).lo.y, .int .i64 (⟨⟨1, 0, 3⟩, ⟨5, 3, 4⟩⟩ : Bx).lo.z, .int .i64 (⟨⟨1, 0, 3⟩, ⟨5, 3, 4⟩⟩ : Bx).hi.x, .int .i64 (⟨⟨1, 0, 3⟩, ⟨5, 3, 4⟩⟩ : Bx).hi.y, .int .i64 (⟨⟨1, 0, 3⟩, ⟨5, 3, 4⟩⟩ : Bx).hi.z] 25)) := (Ext.refl _).alloc _
  have HB7 := Lib.hid B7; have HX := Lib.hid (HX.out.trans x7)
  clear B7 x7
  obtain ⟨hb, hhb⟩ : ∃ hb, hb = W6.heap.size := ⟨_, rfl⟩
  rw [show (.cells #[.int .i64 1, .int .i64 0, .int .i64 3, .int .i64 5, .int .i64 3, .int .i64 4] 25 : Obj) = .cells #[.int .i64 (⟨⟨1, 0, 3⟩, ⟨5, 3, 4⟩⟩ : Bx).lo.x, .int .i64 (⟨⟨1, 0, 3⟩, ⟨5, 3, 4⟩⟩ : Bx).lo.y, .int .i64 (⟨⟨1, 0, 3⟩, ⟨5, 3, 4⟩⟩ : Bx).lo.z, .int .i64 (⟨⟨1, 0, 3⟩, ⟨5, 3, 4⟩⟩ : Bx).hi.x, .int .i64 (⟨⟨1, 0, 3⟩, ⟨5, 3, 4⟩⟩ : Bx).hi.y, .int .i64 (⟨⟨1, 0, 3⟩, ⟨5, 3, 4⟩⟩ : Bx).hi.z] 25 from rfl]
  obtain ⟨W7, hW⟩ : ∃ W, W = W6.alloc (.cells #[.int .i64 (⟨⟨1, 0, 3⟩, ⟨5, 3, 4⟩⟩ : Bx).lo.x, .int .i64 (⟨⟨1, 0, 3⟩, ⟨5, 3, 4⟩⟩ : Bx).lo.y, .int .i64 (⟨⟨1, 0, 3⟩, ⟨5, 3, 4⟩⟩ : Bx).lo.z, .int .i64 (⟨⟨1, 0, 3⟩, ⟨5, 3, 4⟩⟩ : Bx).hi.x, .int .i64 (⟨⟨1, 0, 3⟩, ⟨5, 3, 4⟩⟩ : Bx).hi.y, .int .i64 (⟨⟨1, 0, 3⟩, ⟨5, 3, 4⟩⟩ : Bx).hi.z] 25) := ⟨_, rfl⟩
  rw [← hW] at HB7 HX
  rw [← hW, ← hhb]
  rw [← hhb] at HB7
  clear hW hhb
  go_upto_region 15 with (first
    | (go_at_call 30; refine (at_any 0 0 1 W7).mono ?_; rintro e wa ⟨rfl, xa⟩)
    | (go_at_call 30; refine (at_any 5 0 0 wa).mono ?_; rintro e wb ⟨rfl, xb⟩)
    | (go_at_call 30; refine (at_any 0 0 1 wb).mono ?_; rintro e wc ⟨rfl, xc⟩)
    | (go_at_call 19; refine (sorted_known _ _ _ (sv_lit [⟨0, 0, 1⟩, ⟨5, 0, 0⟩, ⟨0, 0, 1⟩] (by decide) wc)).mono ?_; rintro e W8 ⟨As, cs, rfl, ss, xp⟩))
  have xw := (((xa.trans xb).trans xc).alloc (.cells (rowsP [⟨0, 0, 1⟩, ⟨5, 0, 0⟩, ⟨0, 0, 1⟩]).flatten.toArray 23)).trans xp
  have HB8 := HB7.out.ext xw
  have HX := Lib.hid (HX.out.trans xw)
  obtain ⟨b, off, rfl, hbl, r0, r1, r2⟩ := pt_row (j := 0) (p := ⟨5, 0, 0⟩) ss rfl
  have d0 : W8.cell? ⟨hb, 0, none⟩ = some (.int .i64 1) := HB8.cell 0
  have d1 : W8.cell? ⟨hb, 1, none⟩ = some (.int .i64 0) := HB8.cell 1
  have d2 : W8.cell? ⟨hb, 2, none⟩ = some (.int .i64 3) := HB8.cell 2
  have d3 : W8.cell? ⟨hb, 3, none⟩ = some (.int .i64 5) := HB8.cell 3
  have d4 : W8.cell? ⟨hb, 4, none⟩ = some (.int .i64 3) := HB8.cell 4
  have d5 : W8.cell? ⟨hb, 5, none⟩ = some (.int .i64 4) := HB8.cell 5
  have lb := HB8.lt
  have HA1 := Lib.hid (fun w' => at_any 1 0 3 w')
  have HA2 := Lib.hid (fun w' => at_any 5 3 4 w')
  have HA3 := Lib.hid (fun w' => at_any 5 0 0 w')
  simp only [Nat.zero_mul, Nat.add_zero] at r0 r1 r2
  clear xa xb xc xp xw ss HB8
  refine wp_region_near (by assumption) (by kernel_rfl) ?_
  repeat (go_big_quiet_step ((first | (go_at_call 30; first | exact near_call (HA1.out _) | exact near_call (HA2.out _) | exact near_call (HA3.out _)))))
  refine wpQuiet_nil ?_
  intro w1 hw1
  have hy := Ext.of_near hw1
  clear hw1
  have HX := Lib.hid (HX.out.trans hy)
  clear hy d0 d1 d2 d3 d4 d5 r0 r1 r2
  go_wp2
  go_ret
  exact ⟨rfl, HX.out⟩
end Go.Proofs.YtelhefjikdoihaaDoor

/- FillSetsMatchSpec. -/
namespace Go.Proofs.YtelhefjikdoihaaDoor
open Go Go.RowKit

theorem eqBx_run (a b : Bx) (w : World) : (binOp .eql 25 (.agg #[.int .i64 a.lo.x, .int .i64 a.lo.y, .int .i64 a.lo.z, .int .i64 a.hi.x, .int .i64 a.hi.y, .int .i64 a.hi.z]) (.agg #[.int .i64 b.lo.x, .int .i64 b.lo.y, .int .i64 b.lo.z, .int .i64 b.hi.x, .int .i64 b.hi.y, .int .i64 b.hi.z])).run Tryd.prog w = .ok (.bool (decide (a = b))) w := by
  obtain ⟨⟨a1, a2, a3⟩, ⟨a4, a5, a6⟩⟩ := a
  obtain ⟨⟨b1, b2, b3⟩, ⟨b4, b5, b6⟩⟩ := b
  simp [go_sem]
  by_cases h1 : a1 = b1 <;> by_cases h2 : a2 = b2 <;> by_cases h3 : a3 = b3 <;> by_cases h4 : a4 = b4 <;> by_cases h5 : a5 = b5 <;> by_cases h6 : a6 = b6 <;> simp [h1, h2, h3, h4, h5, h6]
theorem rngQ_small {p : Pt} (h : rngQ p = true) : Small p := by
  unfold rngQ at h
  simp only [Bool.not_eq_true', Bool.or_eq_false_iff, decide_eq_false_iff_not] at h
  unfold Small
  omega
set_option maxRecDepth 100000 in
set_option maxHeartbeats 8000000 in
theorem FillSetsMatchSpec_any (A : Option Addr) (c : Nat) (l : List Pt) (w : World) (hs : Sv w w.heap.size 3 A c (rowsP l)) (hst : StepsIn w) :
    Calls Tryd.prog 4 #[.slice A l.length c] w fun e w' => e = .returned (.bool true) ∧ Ext w w' := by
  have HS := Lib.hid hs; have HST := Lib.hid hst
  have HRA := Lib.hid (fun (w' : World) (hx : Ext w w') => Ranged_any A c l w' (hs.ext hx))
  clear hs hst
  generalize hr : (l.all rngQ && decide (l.length ≤ 60)) = br at HRA
  have HR := Lib.hid hr
  clear hr
  go_enter Tryd.func4, Tryd.ntmps4
  go_upto_region 2 with (go_at_call 8; refine (sanity_any _ HST.out).mono ?_; rintro e w1 ⟨rfl, x1⟩)
  cases br
  · go_wp2_with (go_at_call 18; refine (HRA.out _ x1).mono ?_; rintro e w2 ⟨rfl, x2⟩)
    go_ret
    exact ⟨rfl, x1.trans x2⟩
  · have hr := HR.out
    rw [Bool.and_eq_true, decide_eq_true_eq, List.all_eq_true] at hr
    have hlen := hr.2
    have HSM := Lib.hid (show ∀ p, p ∈ l → Small p from fun p hp => rngQ_small (hr.1 p hp))
    clear hr
    go_upto_region 4 with (go_at_call 18; refine (HRA.out _ x1).mono ?_; rintro e w2 ⟨rfl, x2⟩)
    have HX2 := Lib.hid (x1.trans x2)
    clear x1 x2
    go_upto_region 5 with (first
      | (go_at_call 19; refine (fillSorted_any A c l _ (HS.out.ext HX2.out) (by omega)).mono ?_; rintro e w3 ⟨m, v, hm, rfl, ho, x3⟩; obtain ⟨A3, c3, rfl, s3, _⟩ := own_sv ho)
      | (go_at_call 20; refine (refSorted_any A c l _ (HS.out.ext (HX2.out.trans x3)) (by omega)).mono ?_; rintro e w4 ⟨m', hm', A4, c4, rfl, s4, x4⟩; obtain rfl := hm.uniq hm')
      | (go_at_call 17; refine (same_known A3 A4 c3 c4 m _ (s3.ext x4) s4).mono ?_; rintro e w5 ⟨rfl, x5⟩))
    have HX5 := Lib.hid (HX2.out.trans ((x3.trans x4).trans x5))
    clear x3 x4 x5 s3 s4 ho hm hm'
    go_upto_region 6 with (first
      | (go_at_call 22; refine (fillParts_any A c l _ (HST.out.ext HX5.out) (HS.out.ext HX5.out) (by omega) HSM.out).mono ?_; rintro e w6 ⟨ps, vs, A6, c6, hp, rfl, s6, x6⟩)
      | (go_at_call 23; refine (refParts_any A c l _ (HS.out.ext (HX5.out.trans x6)) (by omega) HSM.out).mono ?_; rintro e w7 ⟨ps', vs', A7, c7, hp', rfl, s7, x7⟩; obtain rfl := hp.uniq hp')
      | (go_at_call 21; refine (SameParts_any A6 A7 c6 c7 vs vs' ps ps w7 (s6.ext x7) s7).mono ?_; rintro e w8 ⟨rfl, x8⟩; rw [decide_eq_true rfl]))
    have HX8 := Lib.hid (HX5.out.trans ((x6.trans x7).trans x8))
    clear x6 x7 x8 s6 s7 hp hp'
    have hq := fun w => eqBx_run (hullL l) (hullL l) w
    simp only [decide_true] at hq
    have HHA := Lib.hid (fun (w' : World) (hx : Ext w w') => fillHull_any A c l w' (HS.out.ext hx) HSM.out)
    have HHB := Lib.hid (fun (w' : World) (hx : Ext w w') => refHull_any A c l w' (HS.out.ext hx) HSM.out)
    generalize hullL l = b at hq HHA HHB
    go_wp2_with (first
      | (go_at_call 24; refine (HHA.out _ HX8.out).mono ?_; rintro e w9 ⟨rfl, x9⟩)
      | (go_at_call 25; refine (HHB.out _ (HX8.out.trans x9)).mono ?_; rintro e w10 ⟨rfl, x10⟩))
    go_ret
    exact ⟨rfl, HX8.out.trans (x9.trans x10)⟩
end Go.Proofs.YtelhefjikdoihaaDoor

/- FillAsksLittle. -/
namespace Go.Proofs.YtelhefjikdoihaaDoor
open Go Go.RowKit

theorem floodOut_in {g : Gr} {a : Pt} {most er : Int} {l : List Pt} (h : FloodOut (fld g) a most l er) : (inP a g.box = false ∧ er = 9) ∨ (inP a g.box = true ∧ (er = 2 ∨ er = 0)) := by
  rcases h with ⟨h1, _, rfl⟩ | ⟨v, h1, ⟨_, _, rfl⟩ | ⟨_, _, rfl⟩⟩
  · refine .inl ⟨?_, rfl⟩
    cases hh : inP a g.box
    · rfl
    · unfold fld at h1; rw [if_pos hh] at h1; cases h1
  · exact .inr ⟨fld_some h1, .inl rfl⟩
  · exact .inr ⟨fld_some h1, .inr rfl⟩
set_option maxRecDepth 100000 in
set_option maxHeartbeats 8000000 in
theorem FillAsksLittle_any (g : Gr) (A : Option Addr) (c : Nat) (a : Pt) (n : Int) (w : World) (hs : Sv w w.heap.size 1 A c (rowsI g.cells)) (hn : 0 ≤ n ∧ n ≤ 65535) (hst : StepsIn w) :
    Calls Tryd.prog 5 #[.agg #[.int .i64 g.box.lo.x, .int .i64 g.box.lo.y, .int .i64 g.box.lo.z, .int .i64 g.box.hi.x, .int .i64 g.box.hi.y, .int .i64 g.box.hi.z, .slice A g.cells.length c], .agg #[.int .i64 a.x, .int .i64 a.y, .int .i64 a.z], .int .u16 n] w fun e w' => e = .returned (.bool true) ∧ Ext w w' := by
  have hx0 : Ext w ((w.alloc (.cells #[.int .i64 g.box.lo.x, .int .i64 g.box.lo.y, .int .i64 g.box.lo.z, .int .i64 g.box.hi.x, .int .i64 g.box.hi.y, .int .i64 g.box.hi.z, .slice A g.cells.length c] 28)).alloc (.cells #[.int .i64 a.x, .int .i64 a.y, .int .i64 a.z] 23)) := ((Ext.refl w).alloc _).alloc _
  have B0 := (Arr.new w 28 [.int .i64 g.box.lo.x, .int .i64 g.box.lo.y, .int .i64 g.box.lo.z, .int .i64 g.box.hi.x, .int .i64 g.box.hi.y, .int .i64 g.box.hi.z, .slice A g.cells.length c]).alloc (.cells #[.int .i64 a.x, .int .i64 a.y, .int .i64 a.z] 23)
  have B1 := Arr.new (w.alloc (.cells #[.int .i64 g.box.lo.x, .int .i64 g.box.lo.y, .int .i64 g.box.lo.z, .int .i64 g.box.hi.x, .int .i64 g.box.hi.y, .int .i64 g.box.hi.z, .slice A g.cells.length c] 28)) 23 [.int .i64 a.x, .int .i64 a.y, .int .i64 a.z]
  rw [World.size_alloc_] at B1
  have HB0 := Lib.hid B0; have HB1 := Lib.hid B1; have HX0 := Lib.hid hx0; have HS := Lib.hid hs; have HST := Lib.hid hst
  clear B0 B1 hx0
  have HFE := Lib.hid (fun (w' : World) (hx : Ext w w') => Few_any g A c w' (hs.ext hx))
  clear hs hst
  generalize hf : (decide (g.cells.length ≤ 200) && validG g) = bf at HFE
  have HF := Lib.hid hf
  clear hf
  go_enter Tryd.func5, Tryd.ntmps5
  go_upto_region 1 with fail
  obtain ⟨W0, hW⟩ : ∃ W, W = (w.alloc (.cells #[.int .i64 g.box.lo.x, .int .i64 g.box.lo.y, .int .i64 g.box.lo.z, .int .i64 g.box.hi.x, .int .i64 g.box.hi.y, .int .i64 g.box.hi.z, .slice A g.cells.length c] 28)).alloc (.cells #[.int .i64 a.x, .int .i64 a.y, .int .i64 a.z] 23) := ⟨_, rfl⟩
  rw [← hW] at HB0 HB1 HX0
  rw [← hW]
  clear hW
  go_upto_region 2 with (go_at_call 8; refine (sanity_any _ (HST.out.ext HX0.out)).mono ?_; rintro e W1 ⟨rfl, x1⟩)
  have HG1 := Lib.hid (HB0.out.ext x1); have HA1 := Lib.hid (HB1.out.ext x1); have HX1 := Lib.hid (HX0.out.trans x1)
  clear x1
  cases bf
  · go_wp2_with (first
      | (refine wpList_load_blk 28 (.tmp 3) rfl rfl HG1.out rfl _ Tryd.underlying28 rfl (by kernel_rfl) ?_)
      | (go_at_call 9; refine (HFE.out _ HX1.out).mono ?_; rintro e W2 ⟨rfl, x2⟩))
    go_ret
    exact ⟨rfl, HX1.out.trans x2⟩
  · have hf := HF.out
    rw [Bool.and_eq_true, decide_eq_true_eq] at hf
    obtain ⟨h200, hv⟩ := hf
    have HV := Lib.hid hv; have H200 := Lib.hid h200
    clear hv h200
    by_cases hgt : 1000 < n
    · go_wp2_with (first
        | (refine wpList_load_blk 28 (.tmp 3) rfl rfl HG1.out rfl _ Tryd.underlying28 rfl (by kernel_rfl) ?_)
        | (go_at_call 9; refine (HFE.out _ HX1.out).mono ?_; rintro e W2 ⟨rfl, x2⟩))
      go_ret
      exact ⟨rfl, HX1.out.trans x2⟩
    · have hle : n ≤ 1000 := by omega
      go_upto_region 4 with (first
        | (refine wpList_load_blk 28 (.tmp 3) rfl rfl HG1.out rfl _ Tryd.underlying28 rfl (by kernel_rfl) ?_)
        | (go_at_call 9; refine (HFE.out _ HX1.out).mono ?_; rintro e W2 ⟨rfl, x2⟩))
      have HG2 := Lib.hid (HG1.out.ext x2); have HA2 := Lib.hid (HA1.out.ext x2); have HX2 := Lib.hid (HX1.out.trans x2)
      clear x2
      go_upto_region 5 with (first
        | (refine wpList_load_blk 28 (.tmp 3) rfl rfl HG2.out rfl _ Tryd.underlying28 rfl (by kernel_rfl) ?_)
        | (go_at_call 11; refine (of_any g A c _ (HS.out.ext HX2.out)).mono ?_; rintro e wf ⟨fb, f1, f2, rfl, fc, fx⟩))
      have HA3 := Lib.hid (HA2.out.ext fx)
      go_upto_region 6 with (first
        | (refine wpList_load_blk 23 (.tmp 4) rfl rfl HA3.out rfl _ Tryd.underlying23 rfl (by kernel_rfl) ?_)
        | (go_at_call 10; refine (floodG_any HV.out H200.out fc fx f1 (HST.out.ext HX2.out) a n).mono ?_; rintro e W3 ⟨l, er, A3, c3, k, hO, hk, rfl, s3, hc3, xw⟩))
      have HG3 := Lib.hid (HG2.out.ext xw); have HA4 := Lib.hid (HA2.out.ext xw); have HX3 := Lib.hid (HX2.out.trans xw)
      have HC3 := Lib.hid hc3.blk
      have HO := Lib.hid (floodOut_in hO)
      have hk2 : (k : Int) ≤ 7 * (n + 2) := by omega
      have hk3 : (k : Int) ≤ 9223372036854775807 := by omega
      clear s3 hc3 xw hO fc fx hk
      have HI := Lib.hid (fun w' => refIn_any a g.box w')
      generalize inP a g.box = bi at HI HO
      have hfl := HC3.out.lt
      rcases HO.out with ⟨rfl, rfl⟩ | ⟨rfl, rfl | rfl⟩
      all_goals
        go_upto_region 7 with (first
          | (refine wpList_load_blk 23 (.tmp 4) rfl rfl HA4.out rfl _ Tryd.underlying23 rfl (by kernel_rfl) ?_)
          | (refine wpList_load_part 25 (.tmp 33) rfl rfl HG3.out 0 [.int .i64 g.box.lo.x, .int .i64 g.box.lo.y, .int .i64 g.box.lo.z, .int .i64 g.box.hi.x, .int .i64 g.box.hi.y, .int .i64 g.box.hi.z] rfl rfl _ Tryd.underlying25 rfl (by kernel_rfl) ?_)
          | (go_at_call 26; refine (HI.out _).mono ?_; rintro e W4 ⟨rfl, x4⟩))
        have hblk := HC3.out.ext x4
        have d7 := hblk.cell 7
        have dl := hblk.lt
        unfold fieldC at d7
        simp only [List.getElem?_cons_zero, List.getElem?_cons_succ] at d7
        go_wp2
        go_ret
        exact ⟨rfl, HX3.out.trans x4⟩
end Go.Proofs.YtelhefjikdoihaaDoor
