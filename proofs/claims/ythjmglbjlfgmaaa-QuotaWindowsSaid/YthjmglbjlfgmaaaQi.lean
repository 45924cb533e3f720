/- Contract of slices.Insert of one use, on a row of the call's own. -/
import Derived.Test.YthjmglbjlfgmaaaQf
import Derived.Shelf.Spec.SlicesInsert
import Derived.Lib.AppendZerosOnto
namespace Go.Proofs.Ythjmglbjlfgmaaa
open Go Go.RowKit Go.Lib

theorem splice_two (cur S x : List Value) (p : Nat) (h : p + x.length + S.length ≤ cur.length) : splice (splice cur (p + x.length) S) p x = cur.take p ++ (x ++ (S ++ cur.drop (p + x.length + S.length))) := by
  unfold splice
  rw [List.take_append_of_le_length (by simp; omega), List.take_take, Nat.min_eq_left (by omega), List.drop_append_of_le_length (by simp; omega), List.drop_eq_nil_of_le (by simp; omega), List.nil_append]

/-- It hands back an owned row that holds ys; of what was there only block g may have turned. -/
def RetIns (e : TypeId) (k g base : Nat) (ys : List (List Value)) (w : World) (en : Ending) (w' : World) : Prop :=
  ∃ v, en = .returned v ∧ w'.ownsRow base e k v ys.length ys.flatten ∧ w.grownBy w' (some g)
def insAt (xs : List (List Value)) (i : Nat) (x : List Value) : List (List Value) := xs.take i ++ x :: xs.drop i

/-- What 'Insert' at the end hands back. -/
def RetEnd (e : TypeId) (k base : Nat) (ys : List (List Value)) (own : Option Nat) (w : World) (en : Ending) (w' : World) : Prop :=
  ∃ v, en = .returned v ∧ w'.ownsRow base e k v ys.length ys.flatten ∧ w.grownBy w' own
def row (a b d : Int) : List Value := [.int .i64 a, .int .i64 b, .int .i64 d]

set_option maxHeartbeats 1000000 in
theorem Insert_end (v : Value) (base : Nat) (xs : List (List Value)) (w : World) (ho : w.ownsRow base 40 3 v xs.length xs.flatten) (hb : xs.length ≤ 1000000) (hbase : base ≤ w.heap.size)
    (a b d : Int) (vb : Nat) (h0 : w.cell? ⟨vb, 0, none⟩ = some (.int .i64 a)) (h1 : w.cell? ⟨vb, 1, none⟩ = some (.int .i64 b)) (h2 : w.cell? ⟨vb, 2, none⟩ = some (.int .i64 d)) :
    Calls Try.prog 27 #[v, .int .i64 xs.length, .slice (some ⟨vb, 0, none⟩) 1 1] w (RetEnd 40 3 base (xs ++ [row a b d]) v.ownBlock w) := by
  obtain ⟨A, c, rfl, hnc, hcm⟩ := own_form ho
  unfold maxLen at hcm
  have hnews : ∀ (j : Nat) (u : Value), (row a b d)[j]? = some u → w.cell? ((⟨vb, 0, none⟩ : Addr).add j) = some u := fun j u hu => by
    rw [add_lit, Nat.zero_add]
    match j, hu with
    | 0, hu => rw [h0]; exact hu
    | 1, hu => rw [h1]; exact hu
    | 2, hu => rw [h2]; exact hu
  have hone : ∀ u, u ∈ row a b d → u.oneCell' = true := fun u hu => by
    simp only [row, List.mem_cons, List.not_mem_nil, or_false] at hu
    rcases hu with rfl | rfl | rfl <;> rfl
  obtain ⟨i0, hi, hz0, hz1, hz2⟩ := info_parts infoUse
  have HI := Lib.hid hi; have HZ := Lib.hid hz0; have HZ1 := Lib.hid hz1; have HZ2 := Lib.hid hz2; have HO := Lib.hid ho
  have HN := Lib.hid hnews; have HE := Lib.hid hone
  have HB := Lib.hid (show (xs.length + 1) ≤ maxLen by unfold maxLen; omega)
  have HB2 := Lib.hid (show (xs.length + 1) * 24 ≤ 140737488355328 by omega)
  clear hi hz0 hz1 hz2 ho hnews hone
  by_cases hcc : c = xs.length
  all_goals
    go_enter Try.func27, Try.ntmps27
    go_wp2_with (at_builtin; refine wpList_append_own _ rfl _ _ 22 rfl base 40 i0 (.agg #[.int .i64 0, .int .i64 0, .int .i64 0]) 3 24 Try.underlying22 HI.out HZ.out HZ1.out HZ2.out rfl (by decide) _ xs.length xs.flatten rfl HO.out ⟨vb, 0, none⟩ 1 1 (row a b d) rfl rfl HN.out HE.out HB.out HB2.out hbase ?_)
    intro v' w' g1 g2 _
    have HO2 := Lib.hid g1; have HG := Lib.hid g2; clear g1 g2
    go_wp2
    go_ret
    exact ⟨_, rfl, by simpa using HO2.out, by cases A <;> exact HG.out⟩

theorem row_one {a b d : Int} : ∀ u, u ∈ row a b d → u.oneCell' = true := fun u hu => by
  simp only [row, List.mem_cons, List.not_mem_nil, or_false] at hu
  rcases hu with rfl | rfl | rfl <;> rfl
/-- The cells of the inserted rows, out of the block's. -/
theorem ins_flatten {xs : List (List Value)} {cur : List Value} {i : Nat} {x : List Value} (hr : ∀ y, y ∈ xs → y.length = 3) (hi : i ≤ xs.length) (ht : cur.take (xs.length * 3) = xs.flatten) :
    (insAt xs i x).flatten = cur.take (i * 3) ++ (x ++ (cur.drop (i * 3)).take ((xs.length - i) * 3)) := by
  have h1 := flatten_take xs i hr hi
  have h2 : (xs.drop i).flatten = xs.flatten.drop (i * 3) := by
    have h3 := List.take_append_drop i xs
    have h4 : xs.flatten = (xs.take i).flatten ++ (xs.drop i).flatten := by rw [← List.flatten_append, h3]
    have h5 : (xs.take i).flatten.length = i * 3 := by rw [flatten_length _ (fun y hy => hr y (List.mem_of_mem_take hy)), List.length_take]; congr 1; omega
    rw [h4, show i * 3 = (xs.take i).flatten.length from h5.symm, List.drop_left]
  unfold insAt
  rw [List.flatten_append, List.flatten_cons, h1, h2, ← ht, List.take_take, List.drop_take, Nat.min_eq_left (by omega), Nat.sub_mul]

theorem ins_length {xs : List (List Value)} {i : Nat} {x : List Value} (hi : i ≤ xs.length) : (insAt xs i x).length = xs.length + 1 := by unfold insAt; simp; omega

set_option maxRecDepth 100000 in
set_option maxHeartbeats 2000000 in
theorem Insert_room (g c base : Nat) (xs : List (List Value)) (w : World) (ho : w.ownsRow base 40 3 (.slice (some ⟨g, 0, none⟩) xs.length c) xs.length xs.flatten) (hr : Rws 3 xs) (i : Nat) (hin : i < xs.length) (hroom : xs.length + 1 ≤ c)
    (a b d : Int) (vb : Nat) (hvb : vb ≠ g) (hv : w.heap[vb]? = some (.cells (row a b d).toArray 40 (0, 0))) :
    Calls Try.prog 27 #[.slice (some ⟨g, 0, none⟩) xs.length c, .int .i64 i, .slice (some ⟨vb, 0, none⟩) 1 1] w (RetIns 40 3 g base (insAt xs i (row a b d)) w) := by
  obtain ⟨cur, hbg, hcur, hnc, hcm, hcl, htk⟩ := own_cur ho
  have hcm' := hcm
  unfold maxLen at hcm'
  have mixed := mixed
  have hz2 : ¬ ((i : Int) = (xs.length : Int)) := by omega
  have hsz : (Try.prog.info? 40).map (·.size) = some 3 := by
    obtain ⟨i0, hi0, h0, h1, h2⟩ := info_parts infoUse
    rw [hi0]; simp [h1]
  have hshv : w.shape? vb = some (40, 3) := by simp [World.shape?, hv, row]
  have hshg : w.shape? g = some (40, cur.length) := by simp [World.shape?, hcur]
  have hov : ∀ lb cb, (callFunc 33 #[.slice (some ⟨vb, 0, none⟩) 1 1, .slice (some ⟨g, (i + 1) * 3, none⟩) lb cb]).run Try.prog w = .ok (.value (.bool false)) w := fun lb cb => by
    rw [run_callFunc_extern Try.func33 (by kernel_rfl) (by kernel_rfl) (by kernel_rfl) (e := Extern.SlicesOverlaps.overlaps #[22, 22] #[4]) (by kernel_rfl),
      Lib.run_overlaps_apart w 22 4 40 Try.underlying22 3 (fun w => by kernel_rfl) ⟨vb, 0, none⟩ ⟨g, (i + 1) * 3, none⟩ 1 1 lb cb hvb _ _ _ _ hshv hshg (by omega) (by simp [World.frozen?, hv]) (by simp [World.frozen?, hv])]
    rfl
  obtain ⟨S, hS⟩ : ∃ S, S = (cur.drop (i * 3)).take ((xs.length - i) * 3) := ⟨_, rfl⟩
  have hSl : S.length = (xs.length - i) * 3 := by rw [hS, List.length_take, List.length_drop]; omega
  have hSone : ∀ u, u ∈ S → u.oneCell' = true := fun u hu => by
    rw [hS] at hu
    refine hr.one u ?_
    rw [← htk, ← List.take_append_drop (i * 3) (cur.take _)]
    refine List.mem_append.2 (.inr ?_)
    rw [List.drop_take, ← Nat.sub_mul]
    exact hu
  have hfin := ins_flatten (x := row a b d) hr.len (Nat.le_of_lt hin) htk
  rw [← hS] at hfin
  have hcp1 : ∀ (W : World), W.heap[g]? = w.heap[g]? → ∀ ty dc sc, (Builtin.copy_ #[22, 22] ty #[.slice (some ⟨g, (i + 1) * 3, none⟩) (xs.length - i) dc, .slice (some ⟨g, i * 3, none⟩) (xs.length + 1 - i) sc]).run Try.prog W = .ok (goInt (xs.length - i : Nat)) (W.setRow g (splice cur ((i + 1) * 3) S).toArray) := fun W hW ty dc sc => by
    have h := run_copy_rows (P := Try.prog) W 22 22 ty 40 3 g ((i + 1) * 3) (xs.length - i) dc ⟨g, i * 3, none⟩ (xs.length + 1 - i) sc cur.toArray 40 S Try.underlying22 hsz (hW.trans hcur) (by rw [hSl]; simp only [Nat.min_def]; split <;> omega)
      (fun j u hj => by
        rw [add_lit]
        have hj2 : cur[i * 3 + j]? = some u := by rw [hS, List.getElem?_take] at hj; split at hj; exact (by rw [← List.getElem?_drop]; exact hj); cases hj
        rw [cell_of_row W g _ _ _ (0, 0) (hW.trans hcur)]; simpa using hj2)
      (by simp; omega) hSone
    rw [h]
    have e1 : Nat.min (xs.length + 1 - i) (xs.length - i) = xs.length - i := by simp only [Nat.min_def]; split <;> omega
    rw [e1]
    simp [splice]
  have hcp2 : ∀ (W : World), W.heap[g]? = some (.cells (splice cur ((i + 1) * 3) S).toArray 40 (0, 0)) → W.heap[vb]? = some (.cells (row a b d).toArray 40 (0, 0)) → ∀ ty dc, (Builtin.copy_ #[22, 22] ty #[.slice (some ⟨g, i * 3, none⟩) (xs.length + 1 - i) dc, .slice (some ⟨vb, 0, none⟩) 1 1]).run Try.prog W = .ok (goInt (1 : Nat)) (W.setRow g (splice (splice cur ((i + 1) * 3) S) (i * 3) (row a b d)).toArray) := fun W hWg hWv ty dc => by
    have h := run_copy_rows (P := Try.prog) W 22 22 ty 40 3 g (i * 3) (xs.length + 1 - i) dc ⟨vb, 0, none⟩ 1 1 (splice cur ((i + 1) * 3) S).toArray 40 (row a b d) Try.underlying22 hsz hWg (by simp only [Nat.min_def]; split <;> simp [row]; omega)
      (fun j u hj => by rw [add_lit, cell_of_row W vb _ _ _ (0, 0) hWv]; simpa using hj)
      (by simp only [List.size_toArray]; rw [length_splice _ _ _ (by omega)]; simp [row]; omega) row_one
    rw [h]
    have e1 : Nat.min 1 (xs.length + 1 - i) = 1 := by simp only [Nat.min_def]; split <;> omega
    rw [e1]
    simp [splice]
  have hw1 : IntKind.i64.wrap ((i : Int) + 1) = (i : Int) + 1 := by rw [IntKind.wrap_i64]; omega
  have hb1 : (0 : Int) ≤ (i : Int) + 1 := by omega
  have htn : ((i : Int) + 1).toNat = i + 1 := by omega
  have hb2 : ¬ (c = i + 1) := by omega
  have hb3 : (i : Int) ≤ (xs.length : Int) + 1 := by omega
  have hb4 : ¬ (c = i) := by omega
  have HF := Lib.hid hfin; have HCU := Lib.hid hcur; have HCL := Lib.hid hcl; have HSL := Lib.hid hSl; have HSS := Lib.hid hS; have HV := Lib.hid hv; have HR := Lib.hid hr
  have H1 := Lib.hid hcp1; have H2 := Lib.hid hcp2
  clear hfin hcur hcl hSl hS hSone hv hr ho htk hcp1 hcp2 hsz hshv hshg
  go_enter Try.func27, Try.ntmps27
  go_wp2_with (simp only [hov])
  have hgl : g < w.heap.size := (Array.getElem?_eq_some_iff.1 HCU.out).1
  have hvl : vb < w.heap.size := (Array.getElem?_eq_some_iff.1 HV.out).1
  refine wp_region_near_tail 8 (by assumption) (by kernel_rfl) ?_
  simp only [List.take_succ_cons, List.take_zero, List.drop_succ_cons, List.drop_zero]
  repeat (go_big_quiet_step (fail))
  refine wpQuiet_nil ?_
  intro w1 hw1
  have hy := Ext.of_near hw1
  clear hw1
  have hWg := hy.below.block g hgl
  have hWv := (hy.below.block vb hvl).trans HV.out
  have HW1 := Lib.hid (setRow_heap w1 g cur.toArray (splice cur ((i + 1) * 3) S).toArray 40 (0, 0) (hWg.trans HCU.out))
  have HW2 := Lib.hid ((setRow_other w1 g vb (splice cur ((i + 1) * 3) S).toArray hvb).trans hWv)
  have HWG := Lib.hid hWg
  clear hWg hWv
  refine wpList_copy_runI _ rfl (.tmp 73) (.tmp 76) 22 22 rfl _ _ rfl rfl (H1.out _ HWG.out _ _ _) ?_
  go_wp2_with (with_reducible refine wpList_copy_runI _ rfl (.tmp 80) (.tmp 81) 22 22 rfl _ _ rfl rfl (H2.out _ HW1.out HW2.out _ _) ?_)
  go_ret
  refine ⟨_, rfl, ?_, grown_row (grown_row (hy.by_ _) _) _⟩
  rw [ins_length (Nat.le_of_lt hin)]
  have hl := HCL.out
  have hsl := HSL.out
  have e1 : (splice (splice cur ((i + 1) * 3) S) (i * 3) (row a b d)).length = c * 3 := by
    rw [length_splice _ _ _ (by rw [length_splice _ _ _ (by omega)]; simp [row]; omega), length_splice _ _ _ (by omega), hl]
  refine own_of_cur hbg (setRow_heap _ g _ _ _ _ HW1.out) hroom hcm e1 ?_
  rw [HF.out, show (i + 1) * 3 = i * 3 + (row a b d).length by simp [row]; omega, splice_two _ _ _ _ (by simp [row]; omega)]
  rw [← List.append_assoc, ← List.append_assoc, List.take_append_of_le_length (by simp [row]; omega), List.take_of_length_le (by simp [row]; omega), List.append_assoc]
end Go.Proofs.Ythjmglbjlfgmaaa
