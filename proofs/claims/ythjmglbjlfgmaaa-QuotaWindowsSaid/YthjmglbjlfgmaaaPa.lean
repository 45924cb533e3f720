/- QuotaMatchesSpec: for every input the law returns true, and each argument reads as it did. No condition. -/
import Derived.Test.YthjmglbjlfgmaaaRead
import Derived.Test.YthjmglbjlfgmaaaLa
namespace Go.Proofs.Ythjmglbjlfgmaaa
open Go Go.RowKit Go.ChangeShapes Go.WideShapes Go.ChangeAt

theorem own_ : ownKnob Try.prog.godebug = none := by kernel_rfl
theorem laidOut_ : laidOutB Try.prog = true := by kernel_rfl
theorem cellsUse : Try.prog.cellsOf 40 = 3 := by kernel_rfl
theorem cellsQuota : Try.prog.cellsOf 24 = 2 := by kernel_rfl
theorem intsInt : IntsT Try.prog 3 := ints_int Try.underlying3 (by kernel_rfl)
theorem intsUse : IntsT Try.prog 40 := by
  refine ints_struct Try.underlying40 (fun i f h => ?_) (fun j hj => ?_)
  · match i, h with
    | 0, h => injection h with h; subst h; exact intsInt
    | 1, h => injection h with h; subst h; exact intsInt
    | 2, h => injection h with h; subst h; exact intsInt
    | i + 3, h => simp at h
  · rw [cellsUse] at hj
    have c1 : Try.prog.cellsOf 3 = 1 := by kernel_rfl
    match j, hj with
    | 0, _ => exact ⟨0, _, rfl, Nat.le_refl _, by show 0 < 0 + Try.prog.cellsOf 3; rw [c1]; decide⟩
    | 1, _ => exact ⟨1, _, rfl, Nat.le_refl _, by show 1 < 1 + Try.prog.cellsOf 3; rw [c1]; decide⟩
    | 2, _ => exact ⟨2, _, rfl, Nat.le_refl _, by show 2 < 2 + Try.prog.cellsOf 3; rw [c1]; decide⟩
theorem intsQuota : IntsT Try.prog 24 := by
  refine ints_struct Try.underlying24 (fun i f h => ?_) (fun j hj => ?_)
  · match i, h with
    | 0, h => injection h with h; subst h; exact intsInt
    | 1, h => injection h with h; subst h; exact intsInt
    | i + 2, h => simp at h
  · rw [cellsQuota] at hj
    have c1 : Try.prog.cellsOf 3 = 1 := by kernel_rfl
    match j, hj with
    | 0, _ => exact ⟨0, _, rfl, Nat.le_refl _, by show 0 < 0 + Try.prog.cellsOf 3; rw [c1]; decide⟩
    | 1, _ => exact ⟨1, _, rfl, Nat.le_refl _, by show 1 < 1 + Try.prog.cellsOf 3; rw [c1]; decide⟩

/-- A slice of uses that came in. -/
theorem read_uses {H : Type} {enc : TypeId × Value → H} {W : World} {base : Nat} {r : Reach} {v : Value} {d : DataW H} {ps : List MemPlace}
    (hv : Value.okWide Try.prog W r base 22 v) (h : DataW.Trod enc Try.prog W 0 (fun _ => true) true 22 v d ps) :
    ∃ (A : Option Addr) (c : Nat) (l : List Use), v = .slice A l.length c ∧ Sl W W.heap.size 3 A c (l.map Use.row) := by
  obtain ⟨A, c, ls, rfl, hs, hl⟩ := read_rows Try.underlying22 cellsUse (by decide) intsUse hv h
  obtain ⟨l, hll⟩ : ∃ l : List Use, ls.map (fun l => l.map (Value.int .i64)) = l.map Use.row := by
    clear hs hv h
    induction ls with
    | nil => exact ⟨[], rfl⟩
    | cons x xs ih =>
      obtain ⟨l, hl'⟩ := ih (fun y hy => hl y (List.mem_cons_of_mem _ hy))
      have h3 := (hl x (List.mem_cons_self ..)).1
      match x, h3 with
      | [a, b, d], _ => exact ⟨⟨a, b, d⟩ :: l, by simp only [List.map_cons, hl']; rfl⟩
  rw [hll] at hs
  have hlen := congrArg List.length hll
  simp only [List.length_map] at hlen
  exact ⟨A, c, l, by rw [hlen], hs⟩
theorem read_quota {H : Type} {enc : TypeId × Value → H} {W : World} {base : Nat} {r : Reach} {v : Value} {d : DataW H} {ps : List MemPlace}
    (hv : Value.okWide Try.prog W r base 24 v) (h : DataW.Trod enc Try.prog W 0 (fun _ => true) true 24 v d ps) : ∃ t c : Int, v = .agg #[.int .i64 t, .int .i64 c] := by
  obtain ⟨l, rfl, hl, _⟩ := read_struct Try.underlying24 intsQuota hv h
  rw [cellsQuota] at hl
  match l, hl with
  | [a, b], _ => exact ⟨a, b, rfl⟩

set_option maxHeartbeats 800000 in
set_option maxRecDepth 100000 in
theorem matches_lifted (os : Os) (started : os.Started) (H : Type) (enc : TypeId × Value → H) :
    ReturnsInHanded {} Try.checked os 3 .any (Rows.quotaMatchesSpecSpec.pre6 enc Try.prog Try.f3 Rows.quotaMatchesSpecRow.domain false) (Rows.quotaMatchesSpecSpec.post enc Try.prog Try.f3 false true false false) := by
  refine returnsInHanded_of_change (C := Try.checked) own_ started (by kernel_rfl) Try.func3
    (ChangeSpec.witness6 (enc := enc) (C := Try.checked) false ⟨#[], #[.slice none 0 0, .agg #[.int .i64 0, .int .i64 0], .int .i64 0, .int .i64 0, .int .i64 0], []⟩ 8 (by kernel_rfl) (by kernel_rfl) (by kernel_rfl) (by kernel_rfl)) ?_
  intro W base args ds gs before hval0 hW hcnd _
  have hval : ∀ (j : Nat) t v, Try.f3.params[j]? = some t → args[j]? = some v → Value.okWide Try.prog W .any base t v := hval0
  have hW' := hW
  obtain ⟨p, q, hA0, hV, rfl, hfz, hnd⟩ := hW
  have hA : DataW.TrodAll enc Try.prog W 0 (fun _ => true) true Try.f3.params.toList args.toList ds p := hA0
  have hAll := hA
  rw [Try.params3] at hA hval
  obtain ⟨v0, vs0, d0, ds0, p0, q0, ha, rfl, rfl, h0, r0⟩ := trodAll_cons hA
  obtain ⟨v1, vs1, d1, ds1, p1, q1, rfl, rfl, rfl, h1, r1⟩ := trodAll_cons r0
  obtain ⟨v2, vs2, d2, ds2, p2, q2, rfl, rfl, rfl, h2, r2⟩ := trodAll_cons r1
  obtain ⟨v3, vs3, d3, ds3, p3, q3, rfl, rfl, rfl, h3, r3⟩ := trodAll_cons r2
  obtain ⟨v4, vs4, d4, ds4, p4, q4, rfl, rfl, rfl, h4, r4⟩ := trodAll_cons r3
  obtain ⟨rfl, rfl, rfl⟩ := trodAll_nil r4
  obtain ⟨rfl, rfl⟩ := trodVars_none hV
  have hargs : args = #[v0, v1, v2, v3, v4] := by apply Array.ext'; exact ha
  subst hargs
  obtain ⟨A, cap, l, rfl, hs⟩ := read_uses (hval 0 _ _ rfl rfl) h0
  obtain ⟨t, c, rfl⟩ := read_quota (hval 1 _ _ rfl rfl) h1
  obtain ⟨s, rfl, rfl, rfl, _⟩ := open_int Try.underlying3 (hval 2 _ _ rfl rfl) h2
  obtain ⟨k, rfl, rfl, rfl, _⟩ := open_int Try.underlying3 (hval 3 _ _ rfl rfl) h3
  obtain ⟨n, rfl, rfl, rfl, _⟩ := open_int Try.underlying3 (hval 4 _ _ rfl rfl) h4
  refine (MatchesSpec_any t c s k n cap A W l hs).mono fun e W' ⟨he, hx⟩ => ?_
  subst he
  have hlt : ∀ x, x ∈ (p0 ++ (p1 ++ ([] ++ ([] ++ ([] ++ []))))) → x.block < W.heap.size := fun x hx2 => hW'.lt x (by simpa using hx2)
  exact ⟨_, rfl, _, _, _, [], _, [], hW', trodAll_mk1 (shut_bool Try.underlying4 true), args_below laidOut_ _ _ _ _ W' (by rw [Try.params3]; intro t ht; simp at ht; rcases ht with rfl | rfl | rfl <;> exact ⟨by kernel_rfl, of_decide_eq_true (by kernel_rfl)⟩) hAll hx.below hlt, rfl, hx.below.frame _, fun h => by cases h⟩

theorem matches_holds : Rows.QuotaMatchesSpecSaid :=
  OpenClaim.holds_of_wide 3 Try.f3 rfl rfl rfl rfl rfl rfl rfl ⟨rfl, rfl, rfl, rfl, rfl⟩ rfl rfl rfl rfl rfl (by kernel_rfl) Try.func3 (by kernel_rfl)
    (of_decide_eq_true (by kernel_rfl)) (by unfold Func.isWrapper; rw [if_neg (of_decide_eq_false (by kernel_rfl))]; exact ⟨rfl, rfl⟩)
    (fun os started H enc _ => matches_lifted os started H enc)
end Go.Proofs.Ythjmglbjlfgmaaa
