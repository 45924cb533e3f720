/- QuotaTakeAdds: for every input the law returns true, and each argument reads as it did. No condition. -/
import Derived.Test.YthjmglbjlfgmaaaPa
import Derived.Test.YthjmglbjlfgmaaaLc
namespace Go.Proofs.Ythjmglbjlfgmaaa
open Go Go.RowKit Go.ChangeShapes Go.WideShapes Go.ChangeAt

set_option maxHeartbeats 800000 in
set_option maxRecDepth 100000 in
theorem quotaTakeAdds_lifted (os : Os) (started : os.Started) (H : Type) (enc : TypeId × Value → H) :
    ReturnsInHanded {} Try.checked os 7 .any (Rows.quotaTakeAddsSpec.pre6 enc Try.prog Try.f7 Rows.quotaTakeAddsRow.domain false) (Rows.quotaTakeAddsSpec.post enc Try.prog Try.f7 false true false false) := by
  refine returnsInHanded_of_change (C := Try.checked) own_ started (by kernel_rfl) Try.func7
    (ChangeSpec.witness6 (enc := enc) (C := Try.checked) false ⟨#[], #[.slice none 0 0, .agg #[.int .i64 0, .int .i64 0], .int .i64 0, .int .i64 0, .int .i64 0, .int .i64 0], []⟩ 8 (by kernel_rfl) (by kernel_rfl) (by kernel_rfl) (by kernel_rfl)) ?_
  intro W base args ds gs before hval0 hW hcnd _
  have hval : ∀ (j : Nat) t v, Try.f7.params[j]? = some t → args[j]? = some v → Value.okWide Try.prog W .any base t v := hval0
  have hW' := hW
  obtain ⟨p, q, hA0, hV, rfl, hfz, hnd⟩ := hW
  have hA : DataW.TrodAll enc Try.prog W 0 (fun _ => true) true Try.f7.params.toList args.toList ds p := hA0
  have hAll := hA
  rw [Try.params7] at hA hval
  obtain ⟨v0, vs0, d0, ds0, p0, q0, ha, rfl, rfl, h0, r0⟩ := trodAll_cons hA
  obtain ⟨v1, vs1, d1, ds1, p1, q1, rfl, rfl, rfl, h1, r1⟩ := trodAll_cons r0
  obtain ⟨v2, vs2, d2, ds2, p2, q2, rfl, rfl, rfl, h2, r2⟩ := trodAll_cons r1
  obtain ⟨v3, vs3, d3, ds3, p3, q3, rfl, rfl, rfl, h3, r3⟩ := trodAll_cons r2
  obtain ⟨v4, vs4, d4, ds4, p4, q4, rfl, rfl, rfl, h4, r4⟩ := trodAll_cons r3
  obtain ⟨v5, vs5, d5, ds5, p5, q5, rfl, rfl, rfl, h5, r5⟩ := trodAll_cons r4
  obtain ⟨rfl, rfl, rfl⟩ := trodAll_nil r5
  obtain ⟨rfl, rfl⟩ := trodVars_none hV
  have hargs : args = #[v0, v1, v2, v3, v4, v5] := by apply Array.ext'; exact ha
  subst hargs
  obtain ⟨A, cap, l, rfl, hs⟩ := read_uses (hval 0 _ _ rfl rfl) h0
  obtain ⟨t, c, rfl⟩ := read_quota (hval 1 _ _ rfl rfl) h1
  obtain ⟨s, rfl, rfl, rfl, _⟩ := open_int Try.underlying3 (hval 2 _ _ rfl rfl) h2
  obtain ⟨k, rfl, rfl, rfl, _⟩ := open_int Try.underlying3 (hval 3 _ _ rfl rfl) h3
  obtain ⟨n, rfl, rfl, rfl, _⟩ := open_int Try.underlying3 (hval 4 _ _ rfl rfl) h4
  obtain ⟨o, rfl, rfl, rfl, _⟩ := open_int Try.underlying3 (hval 5 _ _ rfl rfl) h5
  refine (TakeAdds_any t c s k n o cap A W l hs).mono fun e W' ⟨he, hx⟩ => ?_
  subst he
  have hlt : ∀ x, x ∈ (p0 ++ (p1 ++ ([] ++ ([] ++ ([] ++ ([] ++ [])))))) → x.block < W.heap.size := fun x hx2 => hW'.lt x (by simpa using hx2)
  exact ⟨_, rfl, _, _, _, [], _, [], hW', trodAll_mk1 (shut_bool Try.underlying4 true), args_below laidOut_ _ _ _ _ W' (by rw [Try.params7]; intro t ht; simp at ht; rcases ht with rfl | rfl | rfl <;> exact ⟨by kernel_rfl, of_decide_eq_true (by kernel_rfl)⟩) hAll hx.below hlt, rfl, hx.below.frame _, fun h => by cases h⟩

theorem quotaTakeAdds_holds : Rows.QuotaTakeAddsSaid :=
  OpenClaim.holds_of_wide 7 Try.f7 rfl rfl rfl rfl rfl rfl rfl ⟨rfl, rfl, rfl, rfl, rfl⟩ rfl rfl rfl rfl rfl (by kernel_rfl) Try.func7 (by kernel_rfl)
    (of_decide_eq_true (by kernel_rfl)) (by unfold Func.isWrapper; rw [if_neg (of_decide_eq_false (by kernel_rfl))]; exact ⟨rfl, rfl⟩)
    (fun os started H enc _ => quotaTakeAdds_lifted os started H enc)
end Go.Proofs.Ythjmglbjlfgmaaa
