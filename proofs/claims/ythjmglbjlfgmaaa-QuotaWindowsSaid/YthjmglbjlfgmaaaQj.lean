/- Contract of slices.Insert of one use, on a row of the call's own: no room. And the three roads joined. -/
import Derived.Test.YthjmglbjlfgmaaaQi
namespace Go.Proofs.Ythjmglbjlfgmaaa
open Go Go.RowKit Go.Lib

theorem splice_ext (P Z1 Z2 x S : List Value) (p : Nat) (hp : P.length = p) (hz : Z1.length = x.length + S.length) : splice (splice (P ++ (Z1 ++ Z2)) p x) (p + x.length) S = P ++ (x ++ (S ++ Z2)) := by
  subst hp
  have e1 : splice (P ++ (Z1 ++ Z2)) P.length x = P ++ x ++ (Z1 ++ Z2).drop x.length := by
    unfold splice
    rw [List.take_left, List.drop_append, List.drop_eq_nil_of_le (by omega), List.nil_append, show P.length + x.length - P.length = x.length by omega, List.append_assoc]
  rw [e1]
  unfold splice
  rw [← List.length_append, List.take_left, List.drop_append, List.drop_eq_nil_of_le (by omega), List.nil_append, show (P ++ x).length + S.length - (P ++ x).length = S.length by omega, List.drop_drop, List.drop_append, List.drop_eq_nil_of_le (by omega), List.nil_append, show x.length + S.length - Z1.length = 0 by omega, List.drop_zero]
  simp

set_option maxRecDepth 100000 in
set_option maxHeartbeats 2000000 in
theorem Insert_grow (g c base : Nat) (xs : List (List Value)) (w : World) (ho : w.ownsRow base 40 3 (.slice (some ⟨g, 0, none⟩) xs.length c) xs.length xs.flatten) (hr : Rws 3 xs) (hbase : base ≤ w.heap.size) (hb : xs.length ≤ 1000000) (i : Nat) (hin : i < xs.length) (hroom : ¬ xs.length + 1 ≤ c)
    (a b d : Int) (vb : Nat) (hv : w.heap[vb]? = some (.cells (row a b d).toArray 40 (0, 0))) :
    Calls Try.prog 27 #[.slice (some ⟨g, 0, none⟩) xs.length c, .int .i64 i, .slice (some ⟨vb, 0, none⟩) 1 1] w (RetIns 40 3 g base (insAt xs i (row a b d)) w) := by
  obtain ⟨cur, hbg, hcur, hnc, hcm, hcl, htk⟩ := own_cur ho
  obtain rfl : c = xs.length := by omega
  have mixed := mixed
  have hz2 : ¬ ((i : Int) = (xs.length : Int)) := by omega
  obtain ⟨i0, hi0, hz0, hzs, hzb⟩ := info_parts infoUse
  have hsz : (Try.prog.info? 40).map (·.size) = some 3 := by rw [hi0]; simp [hzs]
  obtain ⟨S, hS⟩ : ∃ S, S = (cur.drop (i * 3)).take ((xs.length - i) * 3) := ⟨_, rfl⟩
  have hSl : S.length = (xs.length - i) * 3 := by rw [hS, List.length_take, List.length_drop]; omega
  have hSone : ∀ u, u ∈ S → u.oneCell' = true := fun u hu => by
    rw [hS] at hu
    refine hr.one u ?_
    rw [← htk, ← List.take_append_drop (i * 3) (cur.take _)]
    refine List.mem_append.2 (.inr ?_)
    rw [List.drop_take, ← Nat.sub_mul]
    exact hu
  have hfin := ins_flatten (x := row a b d) hr.len (Nat.le_of_lt hin) htk
  rw [← hS] at hfin
  have hold : (Builtin.firstCells i0.size i (.slice (some ⟨g, 0, none⟩) i xs.length)).run Try.prog w.drew = .ok (cur.take (i * 3)).toArray w.drew := by
    rw [hzs]
    exact run_firstCells_some w.drew 3 i ⟨g, 0, none⟩ i xs.length (cur.take (i * 3)) (by rw [List.length_take]; omega) (fun j u hj => by
      rw [Addr.add_lit, Nat.zero_add]
      rw [List.getElem?_take] at hj
      split at hj
      · rw [cell_of_row w.drew g _ _ _ (0, 0) hcur]; simpa using hj
      · cases hj)
  obtain ⟨Z1, hZ1⟩ : ∃ Z, Z = (Builtin.zeroCells (Value.agg #[.int .i64 0, .int .i64 0, .int .i64 0]).cells (xs.length + 1 - i)) := ⟨_, rfl⟩
  obtain ⟨G, hG⟩ : ∃ G, G = grownCap w (xs.length + 1) xs.length 40 := ⟨_, rfl⟩
  obtain ⟨Z2, hZ2⟩ : ∃ Z, Z = (Builtin.zeroCells (Value.agg #[.int .i64 0, .int .i64 0, .int .i64 0]).cells (G - (xs.length + 1))) := ⟨_, rfl⟩
  have hrz : ∀ ty, (Builtin.append_ #[22, 3] ty #[.slice (some ⟨g, 0, none⟩) i xs.length, .int .i64 ((xs.length : Int) + 1 - (i : Int))]).run Try.prog w =
      .ok (.slice (some ⟨w.heap.size, 0, none⟩) (xs.length + 1) G) (w.drew.alloc (.cells ((cur.take (i * 3)).toArray ++ Z1 ++ Z2) 40)) := fun ty => by
    have h := Lib.run_append_grow_zeros w 22 3 ty 40 i0 _ .i64 .i64 Try.underlying22 Try.underlying3 hi0 hz0 (some ⟨g, 0, none⟩) i xs.length (cur.take (i * 3)) hold (xs.length + 1 - i) (by omega) (by omega) (by omega) (by omega) (by rw [hzb]; omega) (by rw [hzb, show i + (xs.length + 1 - i) = xs.length + 1 by omega]; exact growslice_fits (by omega) (by omega))
    rw [show i + (xs.length + 1 - i) = xs.length + 1 by omega, ← hG, ← hZ1, ← hZ2] at h
    rw [show (xs.length : Int) + 1 - (i : Int) = ((xs.length + 1 - i : Nat) : Int) by omega]
    exact h
  have hGn : xs.length + 1 ≤ G := by rw [hG]; exact grownCap_ge w _ _ _
  have hGm : G ≤ maxLen := by rw [hG]; exact grownCap_le_maxLen w (xs.length + 1) xs.length _ (by unfold maxLen; omega)
  have hZ1l : Z1.toList.length = (xs.length + 1 - i) * 3 := by rw [hZ1, Array.length_toList, size_zeroCells]; rfl
  have hZ2l : Z2.toList.length = (G - (xs.length + 1)) * 3 := by rw [hZ2, Array.length_toList, size_zeroCells]; rfl
  obtain ⟨R, hR⟩ : ∃ R, R = cur.take (i * 3) ++ (Z1.toList ++ Z2.toList) := ⟨_, rfl⟩
  have hRa : (cur.take (i * 3)).toArray ++ Z1 ++ Z2 = R.toArray := by rw [hR]; apply Array.ext'; simp
  have hRl : R.length = G * 3 := by rw [hR, List.length_append, List.length_append, hZ1l, hZ2l, List.length_take]; omega
  rw [hRa] at hrz
  have hgl : g < w.heap.size := (Array.getElem?_eq_some_iff.1 hcur).1
  have hvl : vb < w.heap.size := (Array.getElem?_eq_some_iff.1 hv).1
  obtain ⟨W0, hW0⟩ : ∃ W0, W0 = w.drew.alloc (.cells R.toArray 40) := ⟨_, rfl⟩
  have hx0 : Ext w W0 := by rw [hW0]; exact ((Ext.refl w).drew).alloc _
  have h0N : W0.heap[w.heap.size]? = some (.cells R.toArray 40 (0, 0)) := by rw [hW0]; exact heap_alloc_new w.drew _
  rw [← hW0] at hrz
  have hcp1 : ∀ ty dc, (Builtin.copy_ #[22, 22] ty #[.slice (some ⟨w.heap.size, i * 3, none⟩) (xs.length + 1 - i) dc, .slice (some ⟨vb, 0, none⟩) 1 1]).run Try.prog W0 = .ok (goInt (1 : Nat)) (W0.setRow w.heap.size (splice R (i * 3) (row a b d)).toArray) := fun ty dc => by
    have h := run_copy_rows (P := Try.prog) W0 22 22 ty 40 3 w.heap.size (i * 3) (xs.length + 1 - i) dc ⟨vb, 0, none⟩ 1 1 R.toArray 40 (row a b d) Try.underlying22 hsz h0N (by simp only [Nat.min_def]; split <;> simp [row]; omega)
      (fun j u hj => by rw [add_lit, cell_of_row W0 vb _ _ _ (0, 0) ((hx0.below.block vb hvl).trans hv)]; simpa using hj)
      (by simp [row]; omega) row_one
    rw [h, show Nat.min 1 (xs.length + 1 - i) = 1 by simp only [Nat.min_def]; split <;> omega]
    simp [splice]
  obtain ⟨W1, hW1⟩ : ∃ W1, W1 = W0.setRow w.heap.size (splice R (i * 3) (row a b d)).toArray := ⟨_, rfl⟩
  have hx1 : Ext w W1 := by rw [hW1]; exact ⟨⟨hx0.below.os, hx0.below.tape, hx0.below.output, by simpa [World.setRow] using hx0.below.size, fun k hk => (setRow_other W0 w.heap.size k _ (by omega)).trans (hx0.below.block k hk)⟩⟩
  have h1N : W1.heap[w.heap.size]? = some (.cells (splice R (i * 3) (row a b d)).toArray 40 (0, 0)) := by rw [hW1]; exact setRow_heap W0 _ _ _ _ _ h0N
  have h1s : w.heap.size < W1.heap.size := (Array.getElem?_eq_some_iff.1 h1N).1
  rw [← hW1] at hcp1
  have hl1 : (splice R (i * 3) (row a b d)).length = G * 3 := by rw [length_splice _ _ _ (by simp [row]; omega), hRl]
  have hcp2 : ∀ (W : World), Ext W1 W → ∀ ty dc sc, (Builtin.copy_ #[22, 22] ty #[.slice (some ⟨w.heap.size, (i + 1) * 3, none⟩) (xs.length - i) dc, .slice (some ⟨g, i * 3, none⟩) (xs.length - i) sc]).run Try.prog W = .ok (goInt (xs.length - i : Nat)) (W.setRow w.heap.size (splice (splice R (i * 3) (row a b d)) ((i + 1) * 3) S).toArray) := fun W hW ty dc sc => by
    have hWN : W.heap[w.heap.size]? = some (.cells (splice R (i * 3) (row a b d)).toArray 40 (0, 0)) := (hW.below.block _ h1s).trans h1N
    have hWg : W.heap[g]? = some (.cells cur.toArray 40 (0, 0)) := (hW.below.block g (by omega)).trans ((hx1.below.block g hgl).trans hcur)
    have h := run_copy_rows (P := Try.prog) W 22 22 ty 40 3 w.heap.size ((i + 1) * 3) (xs.length - i) dc ⟨g, i * 3, none⟩ (xs.length - i) sc (splice R (i * 3) (row a b d)).toArray 40 S Try.underlying22 hsz hWN (by rw [hSl]; simp only [Nat.min_def]; split <;> omega)
      (fun j u hj => by
        rw [add_lit]
        have hj2 : cur[i * 3 + j]? = some u := by rw [hS, List.getElem?_take] at hj; split at hj; exact (by rw [← List.getElem?_drop]; exact hj); cases hj
        rw [cell_of_row W g _ _ _ (0, 0) hWg]; simpa using hj2)
      (by simp only [List.size_toArray]; omega) hSone
    rw [h, show Nat.min (xs.length - i) (xs.length - i) = xs.length - i by simp]
    simp [splice]
  have hw1 : IntKind.i64.wrap ((i : Int) + 1) = (i : Int) + 1 := by rw [IntKind.wrap_i64]; omega
  have hb1 : (0 : Int) ≤ (i : Int) + 1 := by omega
  have htn : ((i : Int) + 1).toNat = i + 1 := by omega
  have hb2 : ¬ (G = i + 1) := by omega
  have hb3 : ¬ (G = i) := by omega
  have hb4 : ¬ (xs.length = i) := by omega
  have hz3 : (xs.length : Int) < (xs.length : Int) + 1 := by omega
  have hm := mixed
  have HRZ := Lib.hid hrz; have HC1 := Lib.hid hcp1; have HC2 := Lib.hid hcp2; have HF := Lib.hid hfin; have HX1 := Lib.hid hx1; have HX0 := Lib.hid hx0; have H1N := Lib.hid h1N; have HL1 := Lib.hid hl1
  have HRL := Lib.hid hRl; have HR := Lib.hid hR; have HZL := Lib.hid hZ1l; have HSL := Lib.hid hSl; have HCL := Lib.hid hcl; have HGM := Lib.hid hGm
  clear hrz hcp1 hcp2 hfin hx1 hx0 h1N h0N hl1 hRl hR hRa hZ1l hZ2l hSl hcl hW0 hW1 hG hZ1 hZ2 hS hSone hold hi0 hz0 hzs hzb hsz hcur hv hr ho htk hcm hGm
  go_enter Try.func27, Try.ntmps27
  go_wp2_with (first | with_reducible refine Lib.wpList_append_run _ rfl (.tmp 34) (.tmp 39) 22 3 rfl _ _ rfl rfl _ _ (HRZ.out _) ?_ | with_reducible refine wpList_copy_runI _ rfl (.tmp 43) (.tmp 44) 22 22 rfl _ _ rfl rfl (HC1.out _ _) ?_)
  simp only [Act.put, List.setIfInBounds_toArray, List.set_cons_zero, List.set_cons_succ]
  refine wp_region_near_tail 8 (by assumption) (by kernel_rfl) ?_
  simp only [List.take_succ_cons, List.take_zero, List.drop_succ_cons, List.drop_zero]
  repeat (go_big_quiet_step (fail))
  refine wpQuiet_nil ?_
  intro w1 hw1
  have hy := Ext.of_near hw1
  clear hw1
  refine wpList_copy_runI _ rfl (.tmp 50) (.tmp 53) 22 22 rfl _ _ rfl rfl (HC2.out _ hy _ _ _) ?_
  go_wp2
  go_ret
  have hWN := (hy.below.block _ h1s).trans H1N.out
  have hxx := HX1.out.trans hy
  refine ⟨_, rfl, ?_, ⟨hxx.below.os, hxx.below.tape, hxx.below.output, by simpa [World.setRow] using hxx.below.size, fun k hk _ => (setRow_other w1 w.heap.size k _ (by omega)).trans (hxx.below.block k hk)⟩⟩
  rw [ins_length (Nat.le_of_lt hin)]
  have hl := HL1.out
  have hsl := HSL.out
  have hrl := HRL.out
  have hcl := HCL.out
  have e1 : (splice (splice R (i * 3) (row a b d)) ((i + 1) * 3) S).length = G * 3 := by
    rw [length_splice _ _ _ (by omega), hl]
  refine own_of_cur hbase (setRow_heap _ _ _ _ _ _ hWN) hGn HGM.out e1 ?_
  have e2 := splice_ext (cur.take (i * 3)) Z1.toList Z2.toList (row a b d) S (i * 3) (by rw [List.length_take]; omega) (by rw [HZL.out, hsl]; simp [row]; omega)
  rw [HF.out, show (i + 1) * 3 = i * 3 + (row a b d).length by simp [row]; omega, HR.out, e2]
  rw [← List.append_assoc, ← List.append_assoc, List.take_append_of_le_length (by simp [row]; omega), List.take_of_length_le (by simp [row]; omega), List.append_assoc]

/-- An owned row and a use in a block of its own: the use is inserted. -/
theorem Insert_any (v : Value) (base : Nat) (xs : List (List Value)) (w : World) (ho : w.ownsRow base 40 3 v xs.length xs.flatten) (hr : Rws 3 xs) (hb : xs.length ≤ 1000000) (hbase : base ≤ w.heap.size) (i : Nat) (hi : i ≤ xs.length)
    (a b d : Int) (vb : Nat) (hvb : v.ownBlock ≠ some vb) (hv : w.heap[vb]? = some (.cells (row a b d).toArray 40 (0, 0))) :
    Calls Try.prog 27 #[v, .int .i64 i, .slice (some ⟨vb, 0, none⟩) 1 1] w (RetEnd 40 3 base (insAt xs i (row a b d)) v.ownBlock w) := by
  have c0 : w.cell? ⟨vb, 0, none⟩ = some (.int .i64 a) := by rw [cell_of_row w vb _ _ _ (0, 0) hv]; rfl
  have c1 : w.cell? ⟨vb, 1, none⟩ = some (.int .i64 b) := by rw [cell_of_row w vb _ _ _ (0, 0) hv]; rfl
  have c2 : w.cell? ⟨vb, 2, none⟩ = some (.int .i64 d) := by rw [cell_of_row w vb _ _ _ (0, 0) hv]; rfl
  rcases Nat.eq_or_lt_of_le hi with rfl | hin
  · have h := Insert_end v base xs w ho hb hbase a b d vb c0 c1 c2
    have e : insAt xs xs.length (row a b d) = xs ++ [row a b d] := by unfold insAt; simp
    rw [e]; exact h
  · rcases ho.2 with ⟨rfl, hn⟩ | ⟨g, c, cur, rfl, _⟩
    · omega
    · have hne : vb ≠ g := fun e => hvb (by rw [e]; rfl)
      by_cases hroom : xs.length + 1 ≤ c
      · exact Insert_room g c base xs w ho hr i hin hroom a b d vb hne hv
      · exact Insert_grow g c base xs w ho hr hbase hb i hin hroom a b d vb hv
end Go.Proofs.Ythjmglbjlfgmaaa
