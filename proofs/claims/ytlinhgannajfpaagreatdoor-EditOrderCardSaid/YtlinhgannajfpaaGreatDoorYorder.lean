/- YtlinhgannajfpaaGreatDoorKe · YtlinhgannajfpaaGreatDoorAE · YtlinhgannajfpaaGreatDoorMu · YtlinhgannajfpaaGreatDoorKp · YtlinhgannajfpaaGreatDoorZf · YtlinhgannajfpaaGreatDoorZfP -/
import Derived.Test.YtlinhgannajfpaaGreatDoorTie
import Derived.Test.YtlinhgannajfpaaGreatDoorCards
import Derived.LaidLaws
import Derived.SevenTiedAt
import Derived.Test.YtlinhgannajfpaaGreatDoorYa10
/- The reference's Compare of stamps; the order of edits, plainly; maps keyed by edits. -/
namespace Go.Proofs.YtlinhgannajfpaaGreatDoor
open Go Go.RowKit

theorem sign_any (a b : Int) (w : World) : Calls Tryz.prog 78 #[.int .i64 a, .int .i64 b] w fun e w' => e = .returned (.int .i64 (cmpI a b)) ∧ Ext w w' := by
  rcases (show a < b ∨ (¬ a < b ∧ b < a) ∨ (¬ a < b ∧ ¬ b < a) by omega) with h | ⟨h, h2⟩ | ⟨h, h2⟩
  all_goals
    go_enter Tryz.func78, Tryz.ntmps78
    go_wp2
    go_ret
    exact ⟨ret_int (by unfold cmpI; first | rw [if_pos (by omega)] | rw [if_neg (by omega), if_pos (by omega)] | rw [if_neg (by omega), if_neg (by omega)]), Ext.refl _⟩
theorem cmpI_self (a : Int) : cmpI a a = 0 := by unfold cmpI; simp
theorem cmpS_at (p q : Sp) : cmpS p q = if p.tick ≠ q.tick then cmpI p.tick q.tick else if p.clock ≠ q.clock then cmpI p.clock q.clock else if p.site ≠ q.site then cmpI p.site q.site else cmpI p.seq q.seq := by
  have hn : ∀ a b : Int, a ≠ b → ¬ cmpI a b = 0 := by
    intro a b h
    unfold cmpI
    split
    · decide
    · split
      · decide
      · omega
  have e : cmpS p q = orI (cmpI p.tick q.tick) (orI (cmpI p.clock q.clock) (orI (cmpI p.site q.site) (orI (cmpI p.seq q.seq) 0))) := rfl
  have o0 : ∀ a, orI 0 a = a := fun a => if_pos rfl
  have on : ∀ a b, ¬ a = 0 → orI a b = a := fun a b h => if_neg h
  have oz : ∀ a, orI a 0 = a := fun a => by
    by_cases h : a = 0
    · rw [h, o0]
    · exact on _ _ h
  rw [e, oz]
  by_cases h1 : p.tick = q.tick
  · rw [h1, cmpI_self, o0, if_neg (fun h => h rfl)]
    by_cases h2 : p.clock = q.clock
    · rw [h2, cmpI_self, o0, if_neg (fun h => h rfl)]
      by_cases h3 : p.site = q.site
      · rw [h3, cmpI_self, o0, if_neg (fun h => h rfl)]
      · rw [on _ _ (hn _ _ h3), if_pos h3]
    · rw [on _ _ (hn _ _ h2), if_pos h2]
  · rw [on _ _ (hn _ _ h1), if_pos h1]

set_option maxRecDepth 100000 in
set_option maxHeartbeats 8000000 in
theorem refStamp_any (p q : Sp) (w : World) : Calls Tryz.prog 31 #[.agg #[.int .i64 p.tick, .int .i64 p.clock, .int .i64 p.site, .int .i64 p.seq], .agg #[.int .i64 q.tick, .int .i64 q.clock, .int .i64 q.site, .int .i64 q.seq]] w fun e w' => e = .returned (.int .i64 (cmpS p q)) ∧ Ext w w' := by
  have hm := mixed
  have hG := near_old
  obtain ⟨W0, hW⟩ : ∃ W, W = (w.alloc (.cells #[.int .i64 p.tick, .int .i64 p.clock, .int .i64 p.site, .int .i64 p.seq] 23)).alloc (.cells #[.int .i64 q.tick, .int .i64 q.clock, .int .i64 q.site, .int .i64 q.seq] 23) := ⟨_, rfl⟩
  have HX := Lib.hid (show Ext w W0 by rw [hW]; exact ((Ext.refl w).alloc _).alloc _)
  have H2 := Lib.hid (show Arr W0 w.heap.size 23 [.int .i64 p.tick, .int .i64 p.clock, .int .i64 p.site, .int .i64 p.seq] by rw [hW]; exact (Arr.new w 23 [.int .i64 p.tick, .int .i64 p.clock, .int .i64 p.site, .int .i64 p.seq]).alloc _)
  have H3 := Lib.hid (show Arr W0 (w.heap.size + 1) 23 [.int .i64 q.tick, .int .i64 q.clock, .int .i64 q.site, .int .i64 q.seq] by rw [hW]; have h := Arr.new (w.alloc (.cells #[.int .i64 p.tick, .int .i64 p.clock, .int .i64 p.site, .int .i64 p.seq] 23)) 23 [.int .i64 q.tick, .int .i64 q.clock, .int .i64 q.site, .int .i64 q.seq]; simp only [World.size_alloc_] at h; exact h)
  rcases (show p.tick ≠ q.tick ∨ (p.tick = q.tick ∧ (p.clock ≠ q.clock ∨ (p.clock = q.clock ∧ (p.site ≠ q.site ∨ p.site = q.site)))) by omega) with h1 | ⟨h1, h2 | ⟨h2, h3 | h3⟩⟩
  · have hd := cmpS_at p q
    rw [if_pos h1] at hd
    rw [hd]
    clear hd
    have HS := Lib.hid (sign_any p.tick q.tick)
    obtain ⟨r, hr⟩ : ∃ r, cmpI p.tick q.tick = r := ⟨_, rfl⟩
    rw [hr] at HS ⊢
    clear hr
    replace h1 := Lib.hid h1
    go_enter Tryz.func31, Tryz.ntmps31
    go_upto_region 1 with fail
    rw [← hW]
    clear hW
    replace h1 := h1.out
    have c2 := H2.out.cell; have l2 := H2.out.lt; have c3 := H3.out.cell; have l3 := H3.out.lt
    go_upto_region 2 with fail
    clear c2 l2 c3 l3
    have c2 := H2.out.cell; have l2 := H2.out.lt; have c3 := H3.out.cell; have l3 := H3.out.lt
    go_wp2_with (first
      | (go_at_call 78; refine (HS.out _).mono ?_; rintro e W1 ⟨rfl, hx⟩; replace HX := Lib.hid (HX.out.trans hx); replace H2 := Lib.hid (H2.out.ext hx); replace H3 := Lib.hid (H3.out.ext hx); clear hx))
    go_ret
    exact ⟨rfl, HX.out⟩
   
  · have hd := cmpS_at p q
    rw [if_neg (fun h => h h1)] at hd
    rw [if_pos h2] at hd
    rw [hd]
    clear hd
    have HS := Lib.hid (sign_any p.clock q.clock)
    obtain ⟨r, hr⟩ : ∃ r, cmpI p.clock q.clock = r := ⟨_, rfl⟩
    rw [hr] at HS ⊢
    clear hr
    replace h1 := Lib.hid h1
    replace h2 := Lib.hid h2
    go_enter Tryz.func31, Tryz.ntmps31
    go_upto_region 1 with fail
    rw [← hW]
    clear hW
    replace h1 := h1.out
    replace h2 := h2.out
    have c2 := H2.out.cell; have l2 := H2.out.lt; have c3 := H3.out.cell; have l3 := H3.out.lt
    go_upto_region 3 with fail
    clear c2 l2 c3 l3
    have c2 := H2.out.cell; have l2 := H2.out.lt; have c3 := H3.out.cell; have l3 := H3.out.lt
    go_upto_region 4 with fail
    clear c2 l2 c3 l3
    have c2 := H2.out.cell; have l2 := H2.out.lt; have c3 := H3.out.cell; have l3 := H3.out.lt
    go_wp2_with (first
      | (go_at_call 78; refine (HS.out _).mono ?_; rintro e W1 ⟨rfl, hx⟩; replace HX := Lib.hid (HX.out.trans hx); replace H2 := Lib.hid (H2.out.ext hx); replace H3 := Lib.hid (H3.out.ext hx); clear hx))
    go_ret
    exact ⟨rfl, HX.out⟩
   
  · have hd := cmpS_at p q
    rw [if_neg (fun h => h h1)] at hd
    rw [if_neg (fun h => h h2)] at hd
    rw [if_pos h3] at hd
    rw [hd]
    clear hd
    have HS := Lib.hid (sign_any p.site q.site)
    obtain ⟨r, hr⟩ : ∃ r, cmpI p.site q.site = r := ⟨_, rfl⟩
    rw [hr] at HS ⊢
    clear hr
    replace h1 := Lib.hid h1
    replace h2 := Lib.hid h2
    replace h3 := Lib.hid h3
    go_enter Tryz.func31, Tryz.ntmps31
    go_upto_region 1 with fail
    rw [← hW]
    clear hW
    replace h1 := h1.out
    replace h2 := h2.out
    replace h3 := h3.out
    have c2 := H2.out.cell; have l2 := H2.out.lt; have c3 := H3.out.cell; have l3 := H3.out.lt
    go_upto_region 3 with fail
    clear c2 l2 c3 l3
    have c2 := H2.out.cell; have l2 := H2.out.lt; have c3 := H3.out.cell; have l3 := H3.out.lt
    go_upto_region 5 with fail
    clear c2 l2 c3 l3
    have c2 := H2.out.cell; have l2 := H2.out.lt; have c3 := H3.out.cell; have l3 := H3.out.lt
    go_upto_region 6 with fail
    clear c2 l2 c3 l3
    have c2 := H2.out.cell; have l2 := H2.out.lt; have c3 := H3.out.cell; have l3 := H3.out.lt
    go_wp2_with (first
      | (go_at_call 78; refine (HS.out _).mono ?_; rintro e W1 ⟨rfl, hx⟩; replace HX := Lib.hid (HX.out.trans hx); replace H2 := Lib.hid (H2.out.ext hx); replace H3 := Lib.hid (H3.out.ext hx); clear hx))
    go_ret
    exact ⟨rfl, HX.out⟩
   
  · have hd := cmpS_at p q
    rw [if_neg (fun h => h h1)] at hd
    rw [if_neg (fun h => h h2)] at hd
    rw [if_neg (fun h => h h3)] at hd
    rw [hd]
    clear hd
    have HS := Lib.hid (sign_any p.seq q.seq)
    obtain ⟨r, hr⟩ : ∃ r, cmpI p.seq q.seq = r := ⟨_, rfl⟩
    rw [hr] at HS ⊢
    clear hr
    replace h1 := Lib.hid h1
    replace h2 := Lib.hid h2
    replace h3 := Lib.hid h3
    go_enter Tryz.func31, Tryz.ntmps31
    go_upto_region 1 with fail
    rw [← hW]
    clear hW
    replace h1 := h1.out
    replace h2 := h2.out
    replace h3 := h3.out
    have c2 := H2.out.cell; have l2 := H2.out.lt; have c3 := H3.out.cell; have l3 := H3.out.lt
    go_upto_region 3 with fail
    clear c2 l2 c3 l3
    have c2 := H2.out.cell; have l2 := H2.out.lt; have c3 := H3.out.cell; have l3 := H3.out.lt
    go_upto_region 5 with fail
    clear c2 l2 c3 l3
    have c2 := H2.out.cell; have l2 := H2.out.lt; have c3 := H3.out.cell; have l3 := H3.out.lt
    go_upto_region 7 with fail
    clear c2 l2 c3 l3
    have c2 := H2.out.cell; have l2 := H2.out.lt; have c3 := H3.out.cell; have l3 := H3.out.lt
    go_wp2_with (first
      | (go_at_call 78; refine (HS.out _).mono ?_; rintro e W1 ⟨rfl, hx⟩; replace HX := Lib.hid (HX.out.trans hx); replace H2 := Lib.hid (H2.out.ext hx); replace H3 := Lib.hid (H3.out.ext hx); clear hx))
    go_ret
    exact ⟨rfl, HX.out⟩

/-- The order of edits: how Compare's answers go together. -/
def cpE (x y : Ed) : Int := cmpV (numsE x) (numsE y)
theorem cpE_cases (x y : Ed) : (cpE x y = -1 ∧ befE x y = true ∧ befE y x = false) ∨ (cpE x y = 1 ∧ befE x y = false ∧ befE y x = true) ∨ (cpE x y = 0 ∧ befE x y = false ∧ befE y x = false) := by
  unfold cpE cmpV
  have h : befE x y = ltL (numsE x) (numsE y) := rfl
  have k : befE y x = ltL (numsE y) (numsE x) := rfl
  rw [← h, ← k]
  cases h1 : befE x y
  · cases h2 : befE y x
    · exact .inr (.inr ⟨rfl, rfl, rfl⟩)
    · exact .inr (.inl ⟨rfl, rfl, rfl⟩)
  · rw [ordE.asym h1]
    exact .inl ⟨rfl, rfl, rfl⟩
theorem cpE_neg (x y : Ed) : cpE y x = -cpE x y := by
  rcases cpE_cases x y with ⟨h1, h2, h3⟩ | ⟨h1, h2, h3⟩ | ⟨h1, h2, h3⟩ <;> rcases cpE_cases y x with ⟨k1, k2, k3⟩ | ⟨k1, k2, k3⟩ | ⟨k1, k2, k3⟩ <;> first | omega | exact Bool.noConfusion (h2.symm.trans k3) | exact Bool.noConfusion (h3.symm.trans k2)
theorem cpE_le {x y z : Ed} (h : cpE x y ≤ 0) (k : cpE y z ≤ 0) : cpE x z ≤ 0 := by
  rcases cpE_cases x y with ⟨h1, h2, h3⟩ | ⟨h1, h2, h3⟩ | ⟨h1, h2, h3⟩ <;> rcases cpE_cases y z with ⟨k1, k2, k3⟩ | ⟨k1, k2, k3⟩ | ⟨k1, k2, k3⟩ <;> rcases cpE_cases x z with ⟨l1, l2, l3⟩ | ⟨l1, l2, l3⟩ | ⟨l1, l2, l3⟩ <;> first | omega | (rw [ordE.ntr k3 h3] at l3; cases l3)
theorem cpE_ge {x y z : Ed} (h : 0 ≤ cpE x y) (k : 0 ≤ cpE y z) : 0 ≤ cpE x z := by
  have h1 := cpE_neg x y
  have k1 := cpE_neg y z
  have l1 := cpE_neg x z
  have := cpE_le (x := z) (y := y) (z := x) (by omega) (by omega)
  omega
theorem cpE_st {x y : Ed} (h : ¬ cmpS x.st y.st = 0) : cpE x y = cmpS x.st y.st := by
  have h1 := cmpE_eq x y
  unfold cmpE orL orI at h1
  rw [if_neg h] at h1
  exact h1.symm
theorem cpE_bef {x y : Ed} (h : befE x y = true) : cpE x y = -1 := by
  rcases cpE_cases x y with ⟨h1, h2, h3⟩ | ⟨h1, h2, h3⟩ | ⟨h1, h2, h3⟩
  · exact h1
  · rw [h2] at h; cases h
  · rw [h2] at h; cases h
def edV (x : Ed) : Value := .agg x.cells.toArray
set_option maxRecDepth 100000 in
theorem ktEd : KeyT Tryz.prog 29 edV where
  agg p := ⟨_, rfl⟩
  kind := ⟨_, Tryz.underlying29⟩
  eq x y w := by
    have h := eqEd_run x y w
    unfold edV
    simp only [binOp] at h
    have h2 : ((Op.equal 29 (.agg x.cells.toArray) (.agg y.cells.toArray)).run Tryz.prog w).andThen (fun a w' => Result.ok (Value.bool a) w') = .ok (.bool (decide (x = y))) w := by simpa using h
    generalize (Op.equal 29 (.agg x.cells.toArray) (.agg y.cells.toArray)).run Tryz.prog w = r at h2 ⊢
    cases r with
    | ok a w' =>
      simp only [Result.andThen, Result.ok.injEq, Value.bool.injEq] at h2
      obtain ⟨rfl, rfl⟩ := h2
      rfl
    | _ => simp [Result.andThen] at h2
  chk b x w := by
    cases b <;> kernel_rfl
  same x := by
    simp [edV, Ed.cells, Instr.sameBits]
  inj x y h := by
    unfold edV Ed.cells at h
    obtain ⟨⟨a1, a2, a3, a4⟩, a5, ⟨⟨a6, a7, a8⟩, ⟨a9, a10, a11⟩⟩, ⟨a12, a13, a14⟩, a15, a16, a17⟩ := x
    obtain ⟨⟨b1, b2, b3, b4⟩, b5, ⟨⟨b6, b7, b8⟩, ⟨b9, b10, b11⟩⟩, ⟨b12, b13, b14⟩, b15, b16, b17⟩ := y
    simp only [Value.agg.injEq] at h
    obtain ⟨rfl, rfl, rfl, rfl, rfl, rfl, rfl, rfl, rfl, rfl, rfl, rfl, rfl, rfl, rfl, rfl, rfl⟩ := h
    rfl
theorem MapF.len_none {P : Program} {K : Type} [DecidableEq K] {enc : K → Value} {w : World} {b : Nat} (h : MapF enc w b (fun _ : K => none)) {T t e : TypeId} (ht : P.underlying T = some (.map t e)) (ty : TypeId) : (Builtin.len_ #[T] ty #[.map (some b)]).run P w = .ok (.int .i64 0) w := by
  obtain ⟨es, clock, ents, hb, hes, _, hm, _⟩ := h
  have he : ents = [] := by
    cases ents with
    | nil => rfl
    | cons x xs =>
      have := hm x.1
      rw [lookK_cons, if_pos rfl] at this
      cases this
  subst he
  have hz : es = #[] := by
    have h1 := congrArg List.length hes
    simp at h1
    exact h1
  subst hz
  unfold Builtin.len_
  simp [run_underlying ht, MapKept.run_getObj_map hb, goInt]
theorem wpList_len_F {P : Program} {K : Type} [DecidableEq K] {t T e : TypeId} {enc : K → Value} {w : World} {ops : Array Oper} {rest : List Oper} {o : Oper} {a : Act} {Q : Exit → Act → World → Prop} (d : Nat) (_hd : o.dst = some d) (mo : Operand)
    (hop : o.op = .call { callee := .builtin .len, args := #[mo], argTypes := #[T] }) (hw : Region.wanted o (yielded ops a.tmps) = true) {b : Nat} (h : MapF enc w b (fun _ : K => none)) (ht : P.underlying T = some (.map t e)) (hm : a.eval mo = .map (some b))
    (hK : wpList P ops Q rest (a.put o.dst (.int .i64 0)) w) : wpList P ops Q (o :: rest) a w := by
  refine wpList_step fun K hK' => ?_
  rw [if_pos hw]
  have hrun := h.len_none ht o.type
  unfold Oper.wp
  simp [execOp, hop, resolve, invoke, builtin, hm, hrun, Result.andThen]
  exact hK' _ _ hK

end Go.Proofs.YtlinhgannajfpaaGreatDoor

/- Append of edits onto an owned row. -/
namespace Go.Proofs.YtlinhgannajfpaaGreatDoor
open Go Go.RowKit

set_option maxRecDepth 100000 in
theorem wpList_append_E {ops : Array Oper} {rest : List Oper} {o : Oper} {a : Act} {w : World} {Q : Exit → Act → World → Prop} (hgd : o.guard = none) (s x : Operand)
    (ho : o.op = .call { callee := .builtin .append, args := #[s, x], argTypes := #[35, 35] })
    (base : Nat) (v : Value) (xs : List Ed) (hs : a.eval s = v) (n : Nat) (hn : xs.length = n) (hown : w.ownsRow base 29 17 v n (rowsE xs).flatten)
    (A : Option Addr) (c m : Nat) (ys : List Ed) (hx : a.eval x = .slice A m c) (hm : ys.length = m) (hr : Sv w w.heap.size 17 A c (rowsE ys)) (tot : Nat) (htot : n + m = tot) (hlen : n + m ≤ 100000) (hbase : base ≤ w.heap.size)
    (h : ∀ A' c' w', w'.ownsRow base 29 17 (.slice A' tot c') tot (rowsE (xs ++ ys)).flatten → w.grownBy w' v.ownBlock → wpList Tryz.prog ops Q rest (a.put o.dst (.slice A' tot c')) w') : wpList Tryz.prog ops Q (o :: rest) a w := by
  subst hn hm htot
  obtain ⟨i0, hi, hz0, hz1, hz2⟩ := info_parts infoEd
  refine wpList_append_sv _ hgd s x 35 ho base 29 i0 _ 17 136 Tryz.underlying35 hi hz0 hz1 hz2 rfl (by decide) v xs.length _ hs hown _ A ys.length c (rowsE ys) hx hr (rowsE_length _) (by unfold maxLen; omega) (by omega) hbase ?_
  intro v' w' h1 h2 _
  have h3 : w'.ownsRow base 29 17 v' (xs ++ ys).length (rowsE (xs ++ ys)).flatten := by rw [rowsE_append, List.flatten_append, List.length_append]; exact h1
  obtain ⟨A', c', rfl, _⟩ := own_form h3
  rw [List.length_append] at h3 ⊢
  exact h A' c' w' h3 h2
theorem own_sv_E {w : World} {base n c : Nat} {A : Option Addr} {xs : List Ed} (h : w.ownsRow base 29 17 (.slice A n c) n (rowsE xs).flatten) (hn : xs.length = n) : Sv w w.heap.size 17 A c (rowsE xs) :=
  Sv.of_own h (rowsE_rwk _) (by rw [rowsE_length, hn])
end Go.Proofs.YtlinhgannajfpaaGreatDoor

/- Maps keyed by structs, on: lookup; a map beside owned rows. -/
namespace Go.Proofs.YtlinhgannajfpaaGreatDoor
open Go Go.RowKit

theorem wpList_lookup_F {P : Program} {K : Type} [DecidableEq K] {t T e : TypeId} {enc : K → Value} {w : World} {ops : Array Oper} {rest : List Oper} {o : Oper} {a : Act} {Q : Exit → Act → World → Prop} (hg : o.guard = none) (mo x : Operand) (cm : Bool) (hop : o.op = .lookup T mo x cm)
    {b : Nat} {m : K → Option Value} (h : MapF enc w b m) (kt : KeyT P t enc) (ht : P.underlying T = some (.map t e)) {z : Value} (hz : (zeroValue e).run P w = .ok z w) (q : K) (u : Value) (hm : a.eval mo = .map (some b)) (hx : a.eval x = enc q)
    (hu : (if cm then .tuple #[(m q).getD z, .bool (m q).isSome] else (m q).getD z) = u)
    (hK : wpList P ops Q rest (a.put o.dst u) w) : wpList P ops Q (o :: rest) a w := by
  refine wpList_plain hg fun K' hK' => ?_
  have hrun := h.look kt ht hz q cm
  rw [hu] at hrun
  unfold Oper.wp
  simp [execOp, hop, hm, hx, hrun, Result.andThen]
  exact hK' _ _ hK
theorem map_ne_own {K : Type} [DecidableEq K] {enc : K → Value} {w : World} {b : Nat} {m : K → Option Value} {base n k : Nat} {e : TypeId} {v : Value} {zs : List Value} (h : MapF enc w b m) (O : w.ownsRow base e k v n zs) : v.ownBlock ≠ some b := fun hb => by
  obtain ⟨es, clock, ents, h1, _⟩ := h
  rcases O.2 with ⟨rfl, _⟩ | ⟨g, cap, cur, rfl, _, hg, _⟩
  · simp [Value.ownBlock] at hb
  · simp only [Value.ownBlock, Option.some.injEq] at hb
    subst hb
    rw [h1] at hg
    cases hg
theorem own_bltH {w : World} {base n k : Nat} {e : TypeId} {v : Value} {zs : List Value} (h : w.ownsRow base e k v n zs) (b : Nat) (hb : v.ownBlock = some b) : b < w.heap.size := by
  rcases h.2 with ⟨rfl, _⟩ | ⟨g, cap, cur, rfl, _, hg, _⟩
  · simp [Value.ownBlock] at hb
  · simp only [Value.ownBlock, Option.some.injEq] at hb
    subst hb
    exact (Array.getElem?_eq_some_iff.1 hg).1
theorem own_ne_arrH {w : World} {base n k fb : Nat} {e t : TypeId} {v : Value} {zs vs : List Value} (O : w.ownsRow base e k v n zs) (B : Arr w fb t vs) (hne : e ≠ t) : v.ownBlock ≠ some fb := fun h => by
  rcases O.2 with ⟨rfl, _⟩ | ⟨g, cap, cur, rfl, _, hg, _⟩
  · simp [Value.ownBlock] at h
  · simp only [Value.ownBlock, Option.some.injEq] at h
    subst h
    unfold Arr at B
    rw [hg] at B
    injection B with B
    injection B with _ B _
    exact hne B
end Go.Proofs.YtlinhgannajfpaaGreatDoor

/- A block kept while a row grows. -/
namespace Go.Proofs.YtlinhgannajfpaaGreatDoor
open Go Go.RowKit

theorem Arr.kept {w w' : World} {b : Nat} {t : TypeId} {vs : List Value} {row : Option Nat} (h : Arr w b t vs) (hg : w.grownBy w' row) (hr : row ≠ some b) : Arr w' b t vs := (hg.block b h.lt (fun e => hr e.symm)).trans h
end Go.Proofs.YtlinhgannajfpaaGreatDoor

/- EditOrder. -/
namespace Go.Proofs.YtlinhgannajfpaaGreatDoor
open Go Go.RowKit

theorem svE_one (w : World) (x : Ed) : Sv (w.alloc (.cells x.cells.toArray 29)) (w.alloc (.cells x.cells.toArray 29)).heap.size 17 (some ⟨w.heap.size, 0, none⟩) 1 (rowsE [x]) := svE_lit w [x] (by simp)
theorem zeroBoolV (w : World) : (zeroValue 4).run Tryz.prog w = .ok (.bool false) w := by
  have h : ∃ i, Tryz.prog.info? 4 = some i ∧ i.zero = some (.bool false) := by
    have h1 : ((Tryz.prog.info? 4).bind (·.zero)) = some (.bool false) := by kernel_rfl
    cases hq : Tryz.prog.info? 4 with
    | none => rw [hq] at h1; cases h1
    | some i => rw [hq] at h1; exact ⟨i, rfl, h1⟩
  obtain ⟨i, h1, h2⟩ := h
  simp [zeroValue, typeInfo, h1, h2]
/-- The set of the edits of a list. -/
def setM (l : List Ed) : Ed → Option Value := fun q => if q ∈ l then some (.bool true) else none
theorem setM_snoc (l : List Ed) (x q : Ed) : (if q = x then some (.bool true) else setM l q) = setM (l ++ [x]) q := by
  unfold setM
  simp only [List.mem_append, List.mem_singleton]
  by_cases h1 : q = x <;> by_cases h2 : q ∈ l <;> simp [h1, h2]
/-- What is left of a set when the first k edits of a list are taken out. -/
def offM (m l : List Ed) : Ed → Option Value := fun q => if q ∈ l then none else setM m q
theorem offM_snoc (m l : List Ed) (x q : Ed) : (if q = x then none else offM m l q) = offM m (l ++ [x]) q := by
  unfold offM
  simp only [List.mem_append, List.mem_singleton]
  by_cases h1 : q = x <;> by_cases h2 : q ∈ l <;> simp [h1, h2]
theorem offM_all {l m : List Ed} (h : IsOrd l m) (q : Ed) : offM m l q = none := by
  unfold offM setM
  by_cases h1 : q ∈ l
  · rw [if_pos h1]
  · rw [if_neg h1, if_neg (fun h2 => h1 ((h.mem q).1 h2))]
theorem IsOrd.rev {l m : List Ed} (h : IsOrd l.reverse m) : IsOrd l m := ⟨h.srt, fun q => (h.mem q).trans List.mem_reverse⟩
theorem Srt.step {α : Type} {r : α → α → Bool} {m : List α} (h : Srt r m) {k : Nat} {p q : α} (hp : m[k]? = some p) (hq : m[k + 1]? = some q) : r p q = true := by
  obtain ⟨h1, rfl⟩ := List.getElem?_eq_some_iff.1 hp
  obtain ⟨h2, rfl⟩ := List.getElem?_eq_some_iff.1 hq
  exact List.pairwise_iff_getElem.1 h k (k + 1) h1 h2 (by omega)
theorem drop_rev {l : List Ed} {p : Nat} {x : Ed} (h : l[p]? = some x) : (l.drop p).reverse = (l.drop (p + 1)).reverse ++ [x] := by
  have hp := (List.getElem?_eq_some_iff.1 h).1
  rw [List.drop_eq_getElem_cons hp, List.reverse_cons]
  rw [(List.getElem?_eq_some_iff.1 h).2]

set_option maxRecDepth 100000 in
set_option maxHeartbeats 16000000 in
theorem EditOrder_any (x y z : Ed) (l : List Ed) (A : Option Addr) (c : Nat) (w : World) (hs : Sv w w.heap.size 17 A c (rowsE l)) (hR : EnvI w) :
    Calls Tryz.prog 7 #[.agg #[.int .i64 x.st.tick, .int .i64 x.st.clock, .int .i64 x.st.site, .int .i64 x.st.seq, .int .i64 x.kind, .int .i64 x.box.lo.x, .int .i64 x.box.lo.y, .int .i64 x.box.lo.z, .int .i64 x.box.hi.x, .int .i64 x.box.hi.y, .int .i64 x.box.hi.z, .int .i64 x.at_.x, .int .i64 x.at_.y, .int .i64 x.at_.z, .int .i64 x.turn, .int .i64 x.cell, .int .i64 x.size], .agg #[.int .i64 y.st.tick, .int .i64 y.st.clock, .int .i64 y.st.site, .int .i64 y.st.seq, .int .i64 y.kind, .int .i64 y.box.lo.x, .int .i64 y.box.lo.y, .int .i64 y.box.lo.z, .int .i64 y.box.hi.x, .int .i64 y.box.hi.y, .int .i64 y.box.hi.z, .int .i64 y.at_.x, .int .i64 y.at_.y, .int .i64 y.at_.z, .int .i64 y.turn, .int .i64 y.cell, .int .i64 y.size], .agg #[.int .i64 z.st.tick, .int .i64 z.st.clock, .int .i64 z.st.site, .int .i64 z.st.seq, .int .i64 z.kind, .int .i64 z.box.lo.x, .int .i64 z.box.lo.y, .int .i64 z.box.lo.z, .int .i64 z.box.hi.x, .int .i64 z.box.hi.y, .int .i64 z.box.hi.z, .int .i64 z.at_.x, .int .i64 z.at_.y, .int .i64 z.at_.z, .int .i64 z.turn, .int .i64 z.cell, .int .i64 z.size], .slice A l.length c] w fun e w' => e = .returned (.bool true) ∧ Ext w w' := by
  have hm := mixed
  have HR := Lib.hid hR
  have HS := Lib.hid hs
  clear hR hs
  obtain ⟨W0, hW⟩ : ∃ W, W = ((w.alloc (.cells #[.int .i64 x.st.tick, .int .i64 x.st.clock, .int .i64 x.st.site, .int .i64 x.st.seq, .int .i64 x.kind, .int .i64 x.box.lo.x, .int .i64 x.box.lo.y, .int .i64 x.box.lo.z, .int .i64 x.box.hi.x, .int .i64 x.box.hi.y, .int .i64 x.box.hi.z, .int .i64 x.at_.x, .int .i64 x.at_.y, .int .i64 x.at_.z, .int .i64 x.turn, .int .i64 x.cell, .int .i64 x.size] 29)).alloc (.cells #[.int .i64 y.st.tick, .int .i64 y.st.clock, .int .i64 y.st.site, .int .i64 y.st.seq, .int .i64 y.kind, .int .i64 y.box.lo.x, .int .i64 y.box.lo.y, .int .i64 y.box.lo.z, .int .i64 y.box.hi.x, .int .i64 y.box.hi.y, .int .i64 y.box.hi.z, .int .i64 y.at_.x, .int .i64 y.at_.y, .int .i64 y.at_.z, .int .i64 y.turn, .int .i64 y.cell, .int .i64 y.size] 29)).alloc (.cells #[.int .i64 z.st.tick, .int .i64 z.st.clock, .int .i64 z.st.site, .int .i64 z.st.seq, .int .i64 z.kind, .int .i64 z.box.lo.x, .int .i64 z.box.lo.y, .int .i64 z.box.lo.z, .int .i64 z.box.hi.x, .int .i64 z.box.hi.y, .int .i64 z.box.hi.z, .int .i64 z.at_.x, .int .i64 z.at_.y, .int .i64 z.at_.z, .int .i64 z.turn, .int .i64 z.cell, .int .i64 z.size] 29) := ⟨_, rfl⟩
  have HX := Lib.hid (show Ext w W0 by rw [hW]; exact (((Ext.refl w).alloc _).alloc _).alloc _)
  have H4 := Lib.hid (show Arr W0 w.heap.size 29 [.int .i64 x.st.tick, .int .i64 x.st.clock, .int .i64 x.st.site, .int .i64 x.st.seq, .int .i64 x.kind, .int .i64 x.box.lo.x, .int .i64 x.box.lo.y, .int .i64 x.box.lo.z, .int .i64 x.box.hi.x, .int .i64 x.box.hi.y, .int .i64 x.box.hi.z, .int .i64 x.at_.x, .int .i64 x.at_.y, .int .i64 x.at_.z, .int .i64 x.turn, .int .i64 x.cell, .int .i64 x.size] by rw [hW]; exact ((Arr.new w _ _).alloc _).alloc _)
  have H5 := Lib.hid (show Arr W0 (w.heap.size + 1) 29 [.int .i64 y.st.tick, .int .i64 y.st.clock, .int .i64 y.st.site, .int .i64 y.st.seq, .int .i64 y.kind, .int .i64 y.box.lo.x, .int .i64 y.box.lo.y, .int .i64 y.box.lo.z, .int .i64 y.box.hi.x, .int .i64 y.box.hi.y, .int .i64 y.box.hi.z, .int .i64 y.at_.x, .int .i64 y.at_.y, .int .i64 y.at_.z, .int .i64 y.turn, .int .i64 y.cell, .int .i64 y.size] by rw [hW]; have h := Arr.new (w.alloc (.cells #[.int .i64 x.st.tick, .int .i64 x.st.clock, .int .i64 x.st.site, .int .i64 x.st.seq, .int .i64 x.kind, .int .i64 x.box.lo.x, .int .i64 x.box.lo.y, .int .i64 x.box.lo.z, .int .i64 x.box.hi.x, .int .i64 x.box.hi.y, .int .i64 x.box.hi.z, .int .i64 x.at_.x, .int .i64 x.at_.y, .int .i64 x.at_.z, .int .i64 x.turn, .int .i64 x.cell, .int .i64 x.size] 29)) 29 [.int .i64 y.st.tick, .int .i64 y.st.clock, .int .i64 y.st.site, .int .i64 y.st.seq, .int .i64 y.kind, .int .i64 y.box.lo.x, .int .i64 y.box.lo.y, .int .i64 y.box.lo.z, .int .i64 y.box.hi.x, .int .i64 y.box.hi.y, .int .i64 y.box.hi.z, .int .i64 y.at_.x, .int .i64 y.at_.y, .int .i64 y.at_.z, .int .i64 y.turn, .int .i64 y.cell, .int .i64 y.size]; simp only [World.size_alloc_] at h; exact h.alloc _)
  have H6 := Lib.hid (show Arr W0 (w.heap.size + 1 + 1) 29 [.int .i64 z.st.tick, .int .i64 z.st.clock, .int .i64 z.st.site, .int .i64 z.st.seq, .int .i64 z.kind, .int .i64 z.box.lo.x, .int .i64 z.box.lo.y, .int .i64 z.box.lo.z, .int .i64 z.box.hi.x, .int .i64 z.box.hi.y, .int .i64 z.box.hi.z, .int .i64 z.at_.x, .int .i64 z.at_.y, .int .i64 z.at_.z, .int .i64 z.turn, .int .i64 z.cell, .int .i64 z.size] by rw [hW]; have h := Arr.new ((w.alloc (.cells #[.int .i64 x.st.tick, .int .i64 x.st.clock, .int .i64 x.st.site, .int .i64 x.st.seq, .int .i64 x.kind, .int .i64 x.box.lo.x, .int .i64 x.box.lo.y, .int .i64 x.box.lo.z, .int .i64 x.box.hi.x, .int .i64 x.box.hi.y, .int .i64 x.box.hi.z, .int .i64 x.at_.x, .int .i64 x.at_.y, .int .i64 x.at_.z, .int .i64 x.turn, .int .i64 x.cell, .int .i64 x.size] 29)).alloc (.cells #[.int .i64 y.st.tick, .int .i64 y.st.clock, .int .i64 y.st.site, .int .i64 y.st.seq, .int .i64 y.kind, .int .i64 y.box.lo.x, .int .i64 y.box.lo.y, .int .i64 y.box.lo.z, .int .i64 y.box.hi.x, .int .i64 y.box.hi.y, .int .i64 y.box.hi.z, .int .i64 y.at_.x, .int .i64 y.at_.y, .int .i64 y.at_.z, .int .i64 y.turn, .int .i64 y.cell, .int .i64 y.size] 29)) 29 [.int .i64 z.st.tick, .int .i64 z.st.clock, .int .i64 z.st.site, .int .i64 z.st.seq, .int .i64 z.kind, .int .i64 z.box.lo.x, .int .i64 z.box.lo.y, .int .i64 z.box.lo.z, .int .i64 z.box.hi.x, .int .i64 z.box.hi.y, .int .i64 z.box.hi.z, .int .i64 z.at_.x, .int .i64 z.at_.y, .int .i64 z.at_.z, .int .i64 z.turn, .int .i64 z.cell, .int .i64 z.size]; simp only [World.size_alloc_] at h; exact h)
  by_cases hl : 40 < (l.length : Int)
  · go_enter Tryz.func7, Tryz.ntmps7
    go_upto_region 1 with fail
    rw [← hW]
    clear hW
    go_wp2_with (go_at_call 10; refine (sanity_any _ (HR.out.ext HX.out)).mono ?_; rintro e W1 ⟨rfl, hx1⟩)
    go_ret
    exact ⟨rfl, HX.out.trans hx1⟩
  have HCM := Lib.hid (fun (p q : Ed) (W : World) => (show Calls Tryz.prog 19 #[.agg #[.int .i64 p.st.tick, .int .i64 p.st.clock, .int .i64 p.st.site, .int .i64 p.st.seq, .int .i64 p.kind, .int .i64 p.box.lo.x, .int .i64 p.box.lo.y, .int .i64 p.box.lo.z, .int .i64 p.box.hi.x, .int .i64 p.box.hi.y, .int .i64 p.box.hi.z, .int .i64 p.at_.x, .int .i64 p.at_.y, .int .i64 p.at_.z, .int .i64 p.turn, .int .i64 p.cell, .int .i64 p.size], .agg #[.int .i64 q.st.tick, .int .i64 q.st.clock, .int .i64 q.st.site, .int .i64 q.st.seq, .int .i64 q.kind, .int .i64 q.box.lo.x, .int .i64 q.box.lo.y, .int .i64 q.box.lo.z, .int .i64 q.box.hi.x, .int .i64 q.box.hi.y, .int .i64 q.box.hi.z, .int .i64 q.at_.x, .int .i64 q.at_.y, .int .i64 q.at_.z, .int .i64 q.turn, .int .i64 q.cell, .int .i64 q.size]] W fun e w' => e = .returned (.int .i64 (cpE p q)) ∧ Ext W w' from (CompareEd_any p q W).mono fun e w' ⟨h1, h2⟩ => ⟨h1, h2.ext⟩))
  have HST := Lib.hid (fun W : World => refStamp_any x.st y.st W)
  have HXY := Lib.hid (HCM.out x y)
  have HYZ := Lib.hid (HCM.out y z)
  have HXZ := Lib.hid (HCM.out x z)
  have HYX := Lib.hid (HCM.out y x)
  have hneg := cpE_neg x y
  have hle : cpE x y ≤ 0 → cpE y z ≤ 0 → cpE x z ≤ 0 := fun h k => cpE_le h k
  have hge : 0 ≤ cpE x y → 0 ≤ cpE y z → 0 ≤ cpE x z := fun h k => cpE_ge h k
  have hst : ¬ cmpS x.st y.st = 0 → cpE x y = cmpS x.st y.st := fun h => cpE_st h
  have hrg : cpE x y = -1 ∨ cpE x y = 1 ∨ cpE x y = 0 := by rcases cpE_cases x y with h | h | h <;> omega
  have HAS := Lib.hid (fun (p q : Ed) (h : befE p q = true) => cpE_bef h)
  generalize cpE x y = ca at *
  generalize cpE y z = cb at *
  generalize cpE x z = cc at *
  generalize cpE y x = cd at *
  generalize cmpS x.st y.st = cs at *
  have HCS := Lib.hid (show (ca = 1 ∧ cd = -1 ∧ ((¬ 0 ≤ cb) ∨ (0 ≤ cb ∧ ¬ cc < 0)) ∧ (cs = 0 ∨ cs = 1)) ∨ (ca = -1 ∧ cd = 1 ∧ ((¬ cb ≤ 0) ∨ (cb ≤ 0 ∧ ¬ 0 < cc)) ∧ (cs = 0 ∨ cs = -1)) ∨ (ca = 0 ∧ cd = 0 ∧ ((¬ 0 ≤ cb ∧ cb ≤ 0 ∧ ¬ 0 < cc) ∨ (¬ cb ≤ 0 ∧ 0 ≤ cb ∧ ¬ cc < 0) ∨ (cb = 0 ∧ cc = 0)) ∧ cs = 0) by omega)
  have HS1 := Lib.hid (fun (W : World) (hx : Ext w W) => SortedEd_any A c l W (HS.out.ext hx) (by omega))
  clear hneg hle hge hst hrg
  go_enter Tryz.func7, Tryz.ntmps7
  go_upto_region 1 with fail
  rw [← hW]
  clear hW
  go_upto_region 3 with fail
  refine wp_region_rel (fun i v w' => match i with
      | 0 => v = .agg #[.int .i64 x.st.tick, .int .i64 x.st.clock, .int .i64 x.st.site, .int .i64 x.st.seq, .int .i64 x.kind, .int .i64 x.box.lo.x, .int .i64 x.box.lo.y, .int .i64 x.box.lo.z, .int .i64 x.box.hi.x, .int .i64 x.box.hi.y, .int .i64 x.box.hi.z, .int .i64 x.at_.x, .int .i64 x.at_.y, .int .i64 x.at_.z, .int .i64 x.turn, .int .i64 x.cell, .int .i64 x.size]
      | 1 => v = .agg #[.int .i64 y.st.tick, .int .i64 y.st.clock, .int .i64 y.st.site, .int .i64 y.st.seq, .int .i64 y.kind, .int .i64 y.box.lo.x, .int .i64 y.box.lo.y, .int .i64 y.box.lo.z, .int .i64 y.box.hi.x, .int .i64 y.box.hi.y, .int .i64 y.box.hi.z, .int .i64 y.at_.x, .int .i64 y.at_.y, .int .i64 y.at_.z, .int .i64 y.turn, .int .i64 y.cell, .int .i64 y.size]
      | 2 => v = .int .i64 ca
      | 3 => v = .agg #[.int .i64 y.st.tick, .int .i64 y.st.clock, .int .i64 y.st.site, .int .i64 y.st.seq, .int .i64 y.kind, .int .i64 y.box.lo.x, .int .i64 y.box.lo.y, .int .i64 y.box.lo.z, .int .i64 y.box.hi.x, .int .i64 y.box.hi.y, .int .i64 y.box.hi.z, .int .i64 y.at_.x, .int .i64 y.at_.y, .int .i64 y.at_.z, .int .i64 y.turn, .int .i64 y.cell, .int .i64 y.size]
      | 4 => v = .agg #[.int .i64 z.st.tick, .int .i64 z.st.clock, .int .i64 z.st.site, .int .i64 z.st.seq, .int .i64 z.kind, .int .i64 z.box.lo.x, .int .i64 z.box.lo.y, .int .i64 z.box.lo.z, .int .i64 z.box.hi.x, .int .i64 z.box.hi.y, .int .i64 z.box.hi.z, .int .i64 z.at_.x, .int .i64 z.at_.y, .int .i64 z.at_.z, .int .i64 z.turn, .int .i64 z.cell, .int .i64 z.size]
      | 5 => v = .int .i64 cb
      | 6 => v = .agg #[.int .i64 x.st.tick, .int .i64 x.st.clock, .int .i64 x.st.site, .int .i64 x.st.seq, .int .i64 x.kind, .int .i64 x.box.lo.x, .int .i64 x.box.lo.y, .int .i64 x.box.lo.z, .int .i64 x.box.hi.x, .int .i64 x.box.hi.y, .int .i64 x.box.hi.z, .int .i64 x.at_.x, .int .i64 x.at_.y, .int .i64 x.at_.z, .int .i64 x.turn, .int .i64 x.cell, .int .i64 x.size]
      | 7 => v = .agg #[.int .i64 z.st.tick, .int .i64 z.st.clock, .int .i64 z.st.site, .int .i64 z.st.seq, .int .i64 z.kind, .int .i64 z.box.lo.x, .int .i64 z.box.lo.y, .int .i64 z.box.lo.z, .int .i64 z.box.hi.x, .int .i64 z.box.hi.y, .int .i64 z.box.hi.z, .int .i64 z.at_.x, .int .i64 z.at_.y, .int .i64 z.at_.z, .int .i64 z.turn, .int .i64 z.cell, .int .i64 z.size]
      | 8 => v = .int .i64 cc
      | 9 => v = .int .i64 ca
      | 10 => v = .int .i64 cb
      | 11 => v = .int .i64 cc
      | _ => True) hm (by kernel_rfl) (by kernel_rfl) rfl ?_ ?_ ?_
  · intro i v w1 w2 hx h
    match i, h with
    | 0, h => exact h
    | 1, h => exact h
    | 2, h => exact h
    | 3, h => exact h
    | 4, h => exact h
    | 5, h => exact h
    | 6, h => exact h
    | 7, h => exact h
    | 8, h => exact h
    | 9, h => exact h
    | 10, h => exact h
    | 11, h => exact h
    | i + 12, h => exact h
  · intro i o ho b w1 hx hmiss hdep K hK
    match i, ho with
    | 0, ho =>
      obtain rfl := Option.some.inj ho
      have e4 : b.tmps[4]? = some (.pointer (some ⟨w.heap.size, 0, none⟩)) := hmiss 4 rfl
      refine want_none rfl ?_
      exact op_loadrow rfl (eval_of e4) (H4.out.ext hx) _ Tryz.underlying29 rfl (by kernel_rfl) (hK _ w1 (Ext.refl _) rfl)
    | 1, ho =>
      obtain rfl := Option.some.inj ho
      have e5 : b.tmps[5]? = some (.pointer (some ⟨w.heap.size + 1, 0, none⟩)) := hmiss 5 rfl
      refine want_none rfl ?_
      exact op_loadrow rfl (eval_of e5) (H5.out.ext hx) _ Tryz.underlying29 rfl (by kernel_rfl) (hK _ w1 (Ext.refl _) rfl)
    | 2, ho =>
      obtain rfl := Option.some.inj ho
      obtain ⟨v25, g25, e25⟩ := hdep 0 rfl
      have g25 : v25 = .agg #[.int .i64 x.st.tick, .int .i64 x.st.clock, .int .i64 x.st.site, .int .i64 x.st.seq, .int .i64 x.kind, .int .i64 x.box.lo.x, .int .i64 x.box.lo.y, .int .i64 x.box.lo.z, .int .i64 x.box.hi.x, .int .i64 x.box.hi.y, .int .i64 x.box.hi.z, .int .i64 x.at_.x, .int .i64 x.at_.y, .int .i64 x.at_.z, .int .i64 x.turn, .int .i64 x.cell, .int .i64 x.size] := g25
      subst g25
      have e25 := e25 25 rfl
      obtain ⟨v26, g26, e26⟩ := hdep 1 rfl
      have g26 : v26 = .agg #[.int .i64 y.st.tick, .int .i64 y.st.clock, .int .i64 y.st.site, .int .i64 y.st.seq, .int .i64 y.kind, .int .i64 y.box.lo.x, .int .i64 y.box.lo.y, .int .i64 y.box.lo.z, .int .i64 y.box.hi.x, .int .i64 y.box.hi.y, .int .i64 y.box.hi.z, .int .i64 y.at_.x, .int .i64 y.at_.y, .int .i64 y.at_.z, .int .i64 y.turn, .int .i64 y.cell, .int .i64 y.size] := g26
      subst g26
      have e26 := e26 26 rfl
      refine want_none rfl ?_
      have hc : Calls Tryz.prog 19 #[.agg #[.int .i64 x.st.tick, .int .i64 x.st.clock, .int .i64 x.st.site, .int .i64 x.st.seq, .int .i64 x.kind, .int .i64 x.box.lo.x, .int .i64 x.box.lo.y, .int .i64 x.box.lo.z, .int .i64 x.box.hi.x, .int .i64 x.box.hi.y, .int .i64 x.box.hi.z, .int .i64 x.at_.x, .int .i64 x.at_.y, .int .i64 x.at_.z, .int .i64 x.turn, .int .i64 x.cell, .int .i64 x.size], .agg #[.int .i64 y.st.tick, .int .i64 y.st.clock, .int .i64 y.st.site, .int .i64 y.st.seq, .int .i64 y.kind, .int .i64 y.box.lo.x, .int .i64 y.box.lo.y, .int .i64 y.box.lo.z, .int .i64 y.box.hi.x, .int .i64 y.box.hi.y, .int .i64 y.box.hi.z, .int .i64 y.at_.x, .int .i64 y.at_.y, .int .i64 y.at_.z, .int .i64 y.turn, .int .i64 y.cell, .int .i64 y.size]] w1 fun e w' => ∃ v, e = .returned v ∧ Ext w1 w' ∧ (v = .int .i64 ca) := (HXY.out w1).mono fun e w2 ⟨h1, h2⟩ => ⟨_, h1, h2, rfl⟩
      exact op_call (G := fun v w' => v = .int .i64 ca) rfl (by simp [eval_of e25, eval_of e26]) (fun _ _ => by kernel_rfl) hc (fun v w' h1 h2 => hK v w' h1 h2)
    | 3, ho =>
      obtain rfl := Option.some.inj ho
      have e5 : b.tmps[5]? = some (.pointer (some ⟨w.heap.size + 1, 0, none⟩)) := hmiss 5 rfl
      refine want_none rfl ?_
      exact op_loadrow rfl (eval_of e5) (H5.out.ext hx) _ Tryz.underlying29 rfl (by kernel_rfl) (hK _ w1 (Ext.refl _) rfl)
    | 4, ho =>
      obtain rfl := Option.some.inj ho
      have e6 : b.tmps[6]? = some (.pointer (some ⟨w.heap.size + 1 + 1, 0, none⟩)) := hmiss 6 rfl
      refine want_none rfl ?_
      exact op_loadrow rfl (eval_of e6) (H6.out.ext hx) _ Tryz.underlying29 rfl (by kernel_rfl) (hK _ w1 (Ext.refl _) rfl)
    | 5, ho =>
      obtain rfl := Option.some.inj ho
      obtain ⟨v28, g28, e28⟩ := hdep 3 rfl
      have g28 : v28 = .agg #[.int .i64 y.st.tick, .int .i64 y.st.clock, .int .i64 y.st.site, .int .i64 y.st.seq, .int .i64 y.kind, .int .i64 y.box.lo.x, .int .i64 y.box.lo.y, .int .i64 y.box.lo.z, .int .i64 y.box.hi.x, .int .i64 y.box.hi.y, .int .i64 y.box.hi.z, .int .i64 y.at_.x, .int .i64 y.at_.y, .int .i64 y.at_.z, .int .i64 y.turn, .int .i64 y.cell, .int .i64 y.size] := g28
      subst g28
      have e28 := e28 28 rfl
      obtain ⟨v29, g29, e29⟩ := hdep 4 rfl
      have g29 : v29 = .agg #[.int .i64 z.st.tick, .int .i64 z.st.clock, .int .i64 z.st.site, .int .i64 z.st.seq, .int .i64 z.kind, .int .i64 z.box.lo.x, .int .i64 z.box.lo.y, .int .i64 z.box.lo.z, .int .i64 z.box.hi.x, .int .i64 z.box.hi.y, .int .i64 z.box.hi.z, .int .i64 z.at_.x, .int .i64 z.at_.y, .int .i64 z.at_.z, .int .i64 z.turn, .int .i64 z.cell, .int .i64 z.size] := g29
      subst g29
      have e29 := e29 29 rfl
      refine want_none rfl ?_
      have hc : Calls Tryz.prog 19 #[.agg #[.int .i64 y.st.tick, .int .i64 y.st.clock, .int .i64 y.st.site, .int .i64 y.st.seq, .int .i64 y.kind, .int .i64 y.box.lo.x, .int .i64 y.box.lo.y, .int .i64 y.box.lo.z, .int .i64 y.box.hi.x, .int .i64 y.box.hi.y, .int .i64 y.box.hi.z, .int .i64 y.at_.x, .int .i64 y.at_.y, .int .i64 y.at_.z, .int .i64 y.turn, .int .i64 y.cell, .int .i64 y.size], .agg #[.int .i64 z.st.tick, .int .i64 z.st.clock, .int .i64 z.st.site, .int .i64 z.st.seq, .int .i64 z.kind, .int .i64 z.box.lo.x, .int .i64 z.box.lo.y, .int .i64 z.box.lo.z, .int .i64 z.box.hi.x, .int .i64 z.box.hi.y, .int .i64 z.box.hi.z, .int .i64 z.at_.x, .int .i64 z.at_.y, .int .i64 z.at_.z, .int .i64 z.turn, .int .i64 z.cell, .int .i64 z.size]] w1 fun e w' => ∃ v, e = .returned v ∧ Ext w1 w' ∧ (v = .int .i64 cb) := (HYZ.out w1).mono fun e w2 ⟨h1, h2⟩ => ⟨_, h1, h2, rfl⟩
      exact op_call (G := fun v w' => v = .int .i64 cb) rfl (by simp [eval_of e28, eval_of e29]) (fun _ _ => by kernel_rfl) hc (fun v w' h1 h2 => hK v w' h1 h2)
    | 6, ho =>
      obtain rfl := Option.some.inj ho
      have e4 : b.tmps[4]? = some (.pointer (some ⟨w.heap.size, 0, none⟩)) := hmiss 4 rfl
      refine want_none rfl ?_
      exact op_loadrow rfl (eval_of e4) (H4.out.ext hx) _ Tryz.underlying29 rfl (by kernel_rfl) (hK _ w1 (Ext.refl _) rfl)
    | 7, ho =>
      obtain rfl := Option.some.inj ho
      have e6 : b.tmps[6]? = some (.pointer (some ⟨w.heap.size + 1 + 1, 0, none⟩)) := hmiss 6 rfl
      refine want_none rfl ?_
      exact op_loadrow rfl (eval_of e6) (H6.out.ext hx) _ Tryz.underlying29 rfl (by kernel_rfl) (hK _ w1 (Ext.refl _) rfl)
    | 8, ho =>
      obtain rfl := Option.some.inj ho
      obtain ⟨v31, g31, e31⟩ := hdep 6 rfl
      have g31 : v31 = .agg #[.int .i64 x.st.tick, .int .i64 x.st.clock, .int .i64 x.st.site, .int .i64 x.st.seq, .int .i64 x.kind, .int .i64 x.box.lo.x, .int .i64 x.box.lo.y, .int .i64 x.box.lo.z, .int .i64 x.box.hi.x, .int .i64 x.box.hi.y, .int .i64 x.box.hi.z, .int .i64 x.at_.x, .int .i64 x.at_.y, .int .i64 x.at_.z, .int .i64 x.turn, .int .i64 x.cell, .int .i64 x.size] := g31
      subst g31
      have e31 := e31 31 rfl
      obtain ⟨v32, g32, e32⟩ := hdep 7 rfl
      have g32 : v32 = .agg #[.int .i64 z.st.tick, .int .i64 z.st.clock, .int .i64 z.st.site, .int .i64 z.st.seq, .int .i64 z.kind, .int .i64 z.box.lo.x, .int .i64 z.box.lo.y, .int .i64 z.box.lo.z, .int .i64 z.box.hi.x, .int .i64 z.box.hi.y, .int .i64 z.box.hi.z, .int .i64 z.at_.x, .int .i64 z.at_.y, .int .i64 z.at_.z, .int .i64 z.turn, .int .i64 z.cell, .int .i64 z.size] := g32
      subst g32
      have e32 := e32 32 rfl
      refine want_none rfl ?_
      have hc : Calls Tryz.prog 19 #[.agg #[.int .i64 x.st.tick, .int .i64 x.st.clock, .int .i64 x.st.site, .int .i64 x.st.seq, .int .i64 x.kind, .int .i64 x.box.lo.x, .int .i64 x.box.lo.y, .int .i64 x.box.lo.z, .int .i64 x.box.hi.x, .int .i64 x.box.hi.y, .int .i64 x.box.hi.z, .int .i64 x.at_.x, .int .i64 x.at_.y, .int .i64 x.at_.z, .int .i64 x.turn, .int .i64 x.cell, .int .i64 x.size], .agg #[.int .i64 z.st.tick, .int .i64 z.st.clock, .int .i64 z.st.site, .int .i64 z.st.seq, .int .i64 z.kind, .int .i64 z.box.lo.x, .int .i64 z.box.lo.y, .int .i64 z.box.lo.z, .int .i64 z.box.hi.x, .int .i64 z.box.hi.y, .int .i64 z.box.hi.z, .int .i64 z.at_.x, .int .i64 z.at_.y, .int .i64 z.at_.z, .int .i64 z.turn, .int .i64 z.cell, .int .i64 z.size]] w1 fun e w' => ∃ v, e = .returned v ∧ Ext w1 w' ∧ (v = .int .i64 cc) := (HXZ.out w1).mono fun e w2 ⟨h1, h2⟩ => ⟨_, h1, h2, rfl⟩
      exact op_call (G := fun v w' => v = .int .i64 cc) rfl (by simp [eval_of e31, eval_of e32]) (fun _ _ => by kernel_rfl) hc (fun v w' h1 h2 => hK v w' h1 h2)
    | 9, ho =>
      obtain rfl := Option.some.inj ho
      obtain ⟨v27, g27, e27⟩ := hdep 2 rfl
      obtain rfl := g27
      have e27 := e27 27 rfl
      refine want_none rfl ?_
      exact op_assign rfl (eval_of e27) (hK _ w1 (Ext.refl _) rfl)
    | 10, ho =>
      obtain rfl := Option.some.inj ho
      obtain ⟨v30, g30, e30⟩ := hdep 5 rfl
      obtain rfl := g30
      have e30 := e30 30 rfl
      refine want_none rfl ?_
      exact op_assign rfl (eval_of e30) (hK _ w1 (Ext.refl _) rfl)
    | 11, ho =>
      obtain rfl := Option.some.inj ho
      obtain ⟨v33, g33, e33⟩ := hdep 8 rfl
      obtain rfl := g33
      have e33 := e33 33 rfl
      refine want_none rfl ?_
      exact op_assign rfl (eval_of e33) (hK _ w1 (Ext.refl _) rfl)
    | i + 12, ho => cases ho
  intro V w9 hx hg
  have g0 : V 0 = .agg #[.int .i64 x.st.tick, .int .i64 x.st.clock, .int .i64 x.st.site, .int .i64 x.st.seq, .int .i64 x.kind, .int .i64 x.box.lo.x, .int .i64 x.box.lo.y, .int .i64 x.box.lo.z, .int .i64 x.box.hi.x, .int .i64 x.box.hi.y, .int .i64 x.box.hi.z, .int .i64 x.at_.x, .int .i64 x.at_.y, .int .i64 x.at_.z, .int .i64 x.turn, .int .i64 x.cell, .int .i64 x.size] := hg 0 (by decide)
  have g1 : V 1 = .agg #[.int .i64 y.st.tick, .int .i64 y.st.clock, .int .i64 y.st.site, .int .i64 y.st.seq, .int .i64 y.kind, .int .i64 y.box.lo.x, .int .i64 y.box.lo.y, .int .i64 y.box.lo.z, .int .i64 y.box.hi.x, .int .i64 y.box.hi.y, .int .i64 y.box.hi.z, .int .i64 y.at_.x, .int .i64 y.at_.y, .int .i64 y.at_.z, .int .i64 y.turn, .int .i64 y.cell, .int .i64 y.size] := hg 1 (by decide)
  have g3 : V 3 = .agg #[.int .i64 y.st.tick, .int .i64 y.st.clock, .int .i64 y.st.site, .int .i64 y.st.seq, .int .i64 y.kind, .int .i64 y.box.lo.x, .int .i64 y.box.lo.y, .int .i64 y.box.lo.z, .int .i64 y.box.hi.x, .int .i64 y.box.hi.y, .int .i64 y.box.hi.z, .int .i64 y.at_.x, .int .i64 y.at_.y, .int .i64 y.at_.z, .int .i64 y.turn, .int .i64 y.cell, .int .i64 y.size] := hg 3 (by decide)
  have g4 : V 4 = .agg #[.int .i64 z.st.tick, .int .i64 z.st.clock, .int .i64 z.st.site, .int .i64 z.st.seq, .int .i64 z.kind, .int .i64 z.box.lo.x, .int .i64 z.box.lo.y, .int .i64 z.box.lo.z, .int .i64 z.box.hi.x, .int .i64 z.box.hi.y, .int .i64 z.box.hi.z, .int .i64 z.at_.x, .int .i64 z.at_.y, .int .i64 z.at_.z, .int .i64 z.turn, .int .i64 z.cell, .int .i64 z.size] := hg 4 (by decide)
  have g6 : V 6 = .agg #[.int .i64 x.st.tick, .int .i64 x.st.clock, .int .i64 x.st.site, .int .i64 x.st.seq, .int .i64 x.kind, .int .i64 x.box.lo.x, .int .i64 x.box.lo.y, .int .i64 x.box.lo.z, .int .i64 x.box.hi.x, .int .i64 x.box.hi.y, .int .i64 x.box.hi.z, .int .i64 x.at_.x, .int .i64 x.at_.y, .int .i64 x.at_.z, .int .i64 x.turn, .int .i64 x.cell, .int .i64 x.size] := hg 6 (by decide)
  have g7 : V 7 = .agg #[.int .i64 z.st.tick, .int .i64 z.st.clock, .int .i64 z.st.site, .int .i64 z.st.seq, .int .i64 z.kind, .int .i64 z.box.lo.x, .int .i64 z.box.lo.y, .int .i64 z.box.lo.z, .int .i64 z.box.hi.x, .int .i64 z.box.hi.y, .int .i64 z.box.hi.z, .int .i64 z.at_.x, .int .i64 z.at_.y, .int .i64 z.at_.z, .int .i64 z.turn, .int .i64 z.cell, .int .i64 z.size] := hg 7 (by decide)
  have g9 : V 9 = .int .i64 ca := hg 9 (by decide)
  have g10 : V 10 = .int .i64 cb := hg 10 (by decide)
  have g11 : V 11 = .int .i64 cc := hg 11 (by decide)
  have g2 := hg 2 (by decide)
  have g5 := hg 5 (by decide)
  have g8 := hg 8 (by decide)
  simp only [List.length_cons, List.length_nil, fillAllN, dstOf, Act.put, List.getElem?_toArray, List.getElem?_cons_zero, List.getElem?_cons_succ, Option.bind_some, g0, g1, g3, g4, g6, g7, g9, g10, g11, List.setIfInBounds_toArray, List.set_cons_zero, List.set_cons_succ]
  clear g0 g1 g3 g4 g6 g7 g9 g10 g11 hg
  obtain ⟨W1, hW9⟩ : ∃ W, W = w9 := ⟨_, rfl⟩
  rw [← hW9] at hx ⊢
  clear hW9
  replace HX := Lib.hid (HX.out.trans hx); replace H4 := Lib.hid (H4.out.ext hx); replace H5 := Lib.hid (H5.out.ext hx); replace H6 := Lib.hid (H6.out.ext hx)
  clear hx HXY HYZ HXZ
  go_upto_region 4 with fail
  go_cut [80] (fun v wc => v = .bool false ∧ Ext W1 wc)
  case first =>
    rcases HCS.out with ⟨rfl, rfl, (h1 | ⟨h1, h2⟩), (rfl | rfl)⟩ | ⟨rfl, rfl, (h1 | ⟨h1, h2⟩), (rfl | rfl)⟩ | ⟨rfl, rfl, (⟨h1, h2, h3⟩ | ⟨h1, h2, h3⟩ | ⟨rfl, rfl⟩), rfl⟩
    all_goals
      (try (have b1 : decide (cc < 0) = false := decide_eq_false (by omega)))
      (try (have b2 : decide (0 < cc) = false := decide_eq_false (by omega)))
      (try (have b3 : decide (0 ≤ cb) = true := decide_eq_true (by omega)))
      (try (have b4 : decide (0 ≤ cb) = false := decide_eq_false (by omega)))
      (try (have b5 : decide (cb ≤ 0) = true := decide_eq_true (by omega)))
      (try (have b6 : decide (cb ≤ 0) = false := decide_eq_false (by omega)))
      go_wp2_with (first
        | (refine wpList_load_blk_d 35 rfl 29 (.tmp 5) rfl (by rfl) H5.out rfl _ Tryz.underlying29 rfl (by kernel_rfl) ?_)
        | (refine wpList_load_blk_d 36 rfl 29 (.tmp 4) rfl (by rfl) H4.out rfl _ Tryz.underlying29 rfl (by kernel_rfl) ?_)
        | (go_at_call 19; refine (HYX.out _).mono ?_; rintro e W2 ⟨rfl, hx⟩; have HX2 := Lib.hid hx; have H42 := Lib.hid (H4.out.ext hx); have H52 := Lib.hid (H5.out.ext hx); clear hx)
        | (refine wpList_load_part 23 (.tmp 65) rfl (by rfl) H42.out 0 [.int .i64 x.st.tick, .int .i64 x.st.clock, .int .i64 x.st.site, .int .i64 x.st.seq] rfl rfl _ Tryz.underlying23 rfl (by kernel_rfl) ?_)
        | (refine wpList_load_part 23 (.tmp 67) rfl (by rfl) H52.out 0 [.int .i64 y.st.tick, .int .i64 y.st.clock, .int .i64 y.st.site, .int .i64 y.st.seq] rfl rfl _ Tryz.underlying23 rfl (by kernel_rfl) ?_)
        | (refine wpList_load_part 23 (.tmp 73) rfl (by rfl) H42.out 0 [.int .i64 x.st.tick, .int .i64 x.st.clock, .int .i64 x.st.site, .int .i64 x.st.seq] rfl rfl _ Tryz.underlying23 rfl (by kernel_rfl) ?_)
        | (refine wpList_load_part 23 (.tmp 75) rfl (by rfl) H52.out 0 [.int .i64 y.st.tick, .int .i64 y.st.clock, .int .i64 y.st.site, .int .i64 y.st.seq] rfl rfl _ Tryz.underlying23 rfl (by kernel_rfl) ?_)
        | (go_at_call 31; refine (HST.out _).mono ?_; rintro e W3 ⟨rfl, hx⟩; replace H42 := Lib.hid (H42.out.ext hx); replace H52 := Lib.hid (H52.out.ext hx); replace HX2 := Lib.hid (HX2.out.trans hx); clear hx))
      go_meet
      case rel => exact ⟨rfl, HX2.out⟩
  case rest =>
  obtain ⟨rfl, hwc⟩ := hcut
  replace HX := Lib.hid (HX.out.trans hwc)
  clear hwc H4 H5 H6 HYX HST HCS
  go_upto_region 7 with (go_at_call 22; refine (HS1.out _ HX.out).mono ?_; rintro e W2 ⟨m, v2, hm1, rfl, ho2, hx⟩; obtain ⟨A1, c1, rfl, hs2⟩ := own_svE ho2; have HX2 := Lib.hid (HX.out.trans hx); have HS2 := Lib.hid hs2; have HM := Lib.hid hm1; have hml : m.length ≤ l.length := (hm1.len); clear ho2 hs2 hm1 hx)
  go_wp2_with fail
  go_loopw [13] (fun iv wr => ∃ k : Nat, iv = .int .i64 ((k + 1 : Nat) : Int) ∧ Ext W2 wr) (fun iv _ => m.length - (intOf iv).toNat)
  case atStart => exact ⟨0, rfl, Ext.refl _⟩
  case round =>
    obtain ⟨k, rfl, hx⟩ := hrel
    have HXR := Lib.hid hx
    clear hx
    by_cases hlt : k + 1 < m.length
    · obtain ⟨p, hp⟩ : ∃ p, m[k]? = some p := ⟨_, List.getElem?_eq_getElem (by omega)⟩
      obtain ⟨q, hq⟩ : ∃ q, m[k + 1]? = some q := ⟨_, List.getElem?_eq_getElem hlt⟩
      obtain ⟨bq, oq, rfl, hbq, hra⟩ := ed_row (HS2.out.ext HXR.out) hp
      obtain ⟨b', o', e, _, hrb⟩ := ed_row (HS2.out.ext HXR.out) hq
      injection e with e
      injection e with e1 e2
      subst e1 e2
      have HRP := Lib.hid (fun w2 (h : Ext wr w2) => show w2.rangeAt bq (oq + k * 17) p.cells from rangeAt_ext hra hbq h)
      have HRQ := Lib.hid (fun w2 (h : Ext wr w2) => show w2.rangeAt bq (oq + (k + 1) * 17) q.cells from rangeAt_ext hrb hbq h)
      have HPQ := Lib.hid (show ∀ W : World, Calls Tryz.prog 19 #[.agg p.cells.toArray, .agg q.cells.toArray] W fun e w' => e = .returned (.int .i64 (-1)) ∧ Ext W w' by
        intro W
        have h := HCM.out p q W
        rw [HAS.out p q (HM.out.srt.step hp hq)] at h
        exact h)
      have hk0 : 0 ≤ (k : Int) := by omega
      have hk1 : ¬ ((m.length : Int) ≤ (k : Int)) := by omega
      have hk2 : k < m.length := by omega
      have hj0 : 0 ≤ ((k + 1 : Nat) : Int) := by omega
      have hj1 : ¬ ((m.length : Int) ≤ ((k + 1 : Nat) : Int)) := by omega
      have hwk : IntKind.i64.wrap (((k + 1 : Nat) : Int) - 1) = (k : Int) := by rw [IntKind.wrap_i64]; omega
      clear hra hrb hp hq
      obtain ⟨jj, hjj⟩ : ∃ j, j = k + 1 := ⟨_, rfl⟩
      rw [← hjj] at hwk hlt HRQ hj0 hj1 ⊢
      have HJJ := Lib.hid hjj
      clear hjj
      go_upto_region 10 with fail
      refine wp_region_rel (fun i v w' => match i with
          | 0 => v = .slice (some ⟨bq, oq, none⟩) m.length c1
          | 1 => v = .int .i64 (jj : Int)
          | 2 => v = .int .i64 (k : Int)
          | 3 => v = .pointer (some ⟨bq, oq + k * 17, none⟩)
          | 4 => v = .agg p.cells.toArray
          | 5 => v = .slice (some ⟨bq, oq, none⟩) m.length c1
          | 6 => v = .int .i64 (jj : Int)
          | 7 => v = .pointer (some ⟨bq, oq + jj * 17, none⟩)
          | 8 => v = .agg q.cells.toArray
          | 9 => v = .int .i64 (-1)
          | 10 => v = .bool false
          | _ => True) hm (by kernel_rfl) (by kernel_rfl) rfl ?_ ?_ ?_
      · intro i v w1 w2 hx h
        match i, h with
        | 0, h => exact h
        | 1, h => exact h
        | 2, h => exact h
        | 3, h => exact h
        | 4, h => exact h
        | 5, h => exact h
        | 6, h => exact h
        | 7, h => exact h
        | 8, h => exact h
        | 9, h => exact h
        | 10, h => exact h
        | i + 11, h => exact h
      · intro i o ho b w1 hx hmiss hdep K hK
        match i, ho with
        | 0, ho =>
          obtain rfl := Option.some.inj ho
          have e12 : b.tmps[12]? = some (.slice (some ⟨bq, oq, none⟩) m.length c1) := hmiss 12 rfl
          refine want_none rfl ?_
          exact op_move rfl (eval_of e12) (hK _ w1 (Ext.refl _) rfl)
        | 1, ho =>
          obtain rfl := Option.some.inj ho
          have e13 : b.tmps[13]? = some (.int .i64 (jj : Int)) := hmiss 13 rfl
          refine want_none rfl ?_
          exact op_move rfl (eval_of e13) (hK _ w1 (Ext.refl _) rfl)
        | 2, ho =>
          obtain rfl := Option.some.inj ho
          obtain ⟨v90, g90, e90⟩ := hdep 1 rfl
          have g90 : v90 = .int .i64 (jj : Int) := g90
          subst g90
          have e90 := e90 90 rfl
          refine want_none rfl ?_
          exact op_run (by unfold execOp; simp [e90, Act.eval, go_sem, hwk]) (hK _ w1 (Ext.refl _) rfl)
        | 3, ho =>
          obtain rfl := Option.some.inj ho
          obtain ⟨v89, g89, e89⟩ := hdep 0 rfl
          have g89 : v89 = .slice (some ⟨bq, oq, none⟩) m.length c1 := g89
          subst g89
          have e89 := e89 89 rfl
          obtain ⟨v91, g91, e91⟩ := hdep 2 rfl
          have g91 : v91 = .int .i64 (k : Int) := g91
          subst g91
          have e91 := e91 91 rfl
          refine want_none rfl ?_
          exact op_run (by unfold execOp; simp [e89, e91, Act.eval, go_sem, hk0, hk2]) (hK _ w1 (Ext.refl _) rfl)
        | 4, ho =>
          obtain rfl := Option.some.inj ho
          obtain ⟨v92, g92, e92⟩ := hdep 3 rfl
          have g92 : v92 = .pointer (some ⟨bq, oq + k * 17, none⟩) := g92
          subst g92
          have e92 := e92 92 rfl
          refine want_none rfl ?_
          exact wp_load_mid 29 (.tmp 92) rfl (bq) (oq + k * 17) (eval_of e92) (p.cells) _ (HRP.out w1 hx) Tryz.underlying29 rfl (by kernel_rfl) (hK _ w1 (Ext.refl _) rfl)
        | 5, ho =>
          obtain rfl := Option.some.inj ho
          have e12 : b.tmps[12]? = some (.slice (some ⟨bq, oq, none⟩) m.length c1) := hmiss 12 rfl
          refine want_none rfl ?_
          exact op_move rfl (eval_of e12) (hK _ w1 (Ext.refl _) rfl)
        | 6, ho =>
          obtain rfl := Option.some.inj ho
          have e13 : b.tmps[13]? = some (.int .i64 (jj : Int)) := hmiss 13 rfl
          refine want_none rfl ?_
          exact op_move rfl (eval_of e13) (hK _ w1 (Ext.refl _) rfl)
        | 7, ho =>
          obtain rfl := Option.some.inj ho
          obtain ⟨v94, g94, e94⟩ := hdep 5 rfl
          have g94 : v94 = .slice (some ⟨bq, oq, none⟩) m.length c1 := g94
          subst g94
          have e94 := e94 94 rfl
          obtain ⟨v95, g95, e95⟩ := hdep 6 rfl
          have g95 : v95 = .int .i64 (jj : Int) := g95
          subst g95
          have e95 := e95 95 rfl
          refine want_none rfl ?_
          exact op_run (by unfold execOp; simp [e94, e95, Act.eval, go_sem, hj0, hlt]) (hK _ w1 (Ext.refl _) rfl)
        | 8, ho =>
          obtain rfl := Option.some.inj ho
          obtain ⟨v96, g96, e96⟩ := hdep 7 rfl
          have g96 : v96 = .pointer (some ⟨bq, oq + jj * 17, none⟩) := g96
          subst g96
          have e96 := e96 96 rfl
          refine want_none rfl ?_
          exact wp_load_mid 29 (.tmp 96) rfl (bq) (oq + jj * 17) (eval_of e96) (q.cells) _ (HRQ.out w1 hx) Tryz.underlying29 rfl (by kernel_rfl) (hK _ w1 (Ext.refl _) rfl)
        | 9, ho =>
          obtain rfl := Option.some.inj ho
          obtain ⟨v93, g93, e93⟩ := hdep 4 rfl
          have g93 : v93 = .agg p.cells.toArray := g93
          subst g93
          have e93 := e93 93 rfl
          obtain ⟨v97, g97, e97⟩ := hdep 8 rfl
          have g97 : v97 = .agg q.cells.toArray := g97
          subst g97
          have e97 := e97 97 rfl
          refine want_none rfl ?_
          have hc : Calls Tryz.prog 19 #[.agg p.cells.toArray, .agg q.cells.toArray] w1 fun e w' => ∃ v, e = .returned v ∧ Ext w1 w' ∧ (v = .int .i64 (-1)) := (HPQ.out w1).mono fun e w2 ⟨h1, h2⟩ => ⟨_, h1, h2, rfl⟩
          exact op_call (G := fun v w' => v = .int .i64 (-1)) rfl (by simp [eval_of e93, eval_of e97]) (fun _ _ => by kernel_rfl) hc (fun v w' h1 h2 => hK v w' h1 h2)
        | 10, ho =>
          obtain rfl := Option.some.inj ho
          obtain ⟨v98, g98, e98⟩ := hdep 9 rfl
          obtain rfl := g98
          have e98 := e98 98 rfl
          refine want_none rfl ?_
          exact op_run (by unfold execOp; simp [e98, Act.eval, go_sem]) (hK _ w1 (Ext.refl _) rfl)
        | i + 11, ho => cases ho
      intro V w9 hx hg
      have g0 : V 0 = .slice (some ⟨bq, oq, none⟩) m.length c1 := hg 0 (by decide)
      have g1 : V 1 = .int .i64 (jj : Int) := hg 1 (by decide)
      have g2 : V 2 = .int .i64 (k : Int) := hg 2 (by decide)
      have g3 : V 3 = .pointer (some ⟨bq, oq + k * 17, none⟩) := hg 3 (by decide)
      have g4 : V 4 = .agg p.cells.toArray := hg 4 (by decide)
      have g5 : V 5 = .slice (some ⟨bq, oq, none⟩) m.length c1 := hg 5 (by decide)
      have g6 : V 6 = .int .i64 (jj : Int) := hg 6 (by decide)
      have g7 : V 7 = .pointer (some ⟨bq, oq + jj * 17, none⟩) := hg 7 (by decide)
      have g8 : V 8 = .agg q.cells.toArray := hg 8 (by decide)
      have g10 : V 10 = .bool false := hg 10 (by decide)
      have g9 := hg 9 (by decide)
      simp only [List.length_cons, List.length_nil, fillAllN, dstOf, Act.put, List.getElem?_toArray, List.getElem?_cons_zero, List.getElem?_cons_succ, Option.bind_some, g0, g1, g2, g3, g4, g5, g6, g7, g8, g10, List.setIfInBounds_toArray, List.set_cons_zero, List.set_cons_succ]
      clear g0 g1 g2 g3 g4 g5 g6 g7 g8 g10 hg
      have HXn := Lib.hid (HXR.out.trans hx)
      clear hx
      have hwj : IntKind.i64.wrap ((jj : Int) + 1) = ((jj + 1 : Nat) : Int) := by rw [IntKind.wrap_i64]; have := HJJ.out; omega
      clear hk0 hk1 hk2 hj0 hj1 hwk
      go_wp2_with fail
      go_roundw
      case rel => exact ⟨k + 1, by rw [HJJ.out]; exact congrArg _ (by omega), HXn.out⟩
      case measure => have := HJJ.out; simp [intOf]; omega
    · have hlt2 : ¬ (((k + 1 : Nat) : Int) < (m.length : Int)) := by omega
      generalize ((k + 1 : Nat) : Int) = jk at hlt2 ⊢
      have HX3 := Lib.hid HXR.out
      have hmm := @run_makeMap Tryz.prog
      clear HXR hlt
      go_upto_region 12 with fail
      clear hlt2
      have HM0 := Lib.hid (MapF.made (enc := edV) wr)
      have HXM := Lib.hid (show Ext W2 (wr.alloc (.map #[] 0)) from HX3.out.alloc _)
      go_upto_region 13 with fail
      obtain ⟨bm, hbm⟩ : ∃ bm, bm = wr.heap.size := ⟨_, rfl⟩
      obtain ⟨W3, hW⟩ : ∃ W, W = wr.alloc (.map #[] 0) := ⟨_, rfl⟩
      rw [← hW, ← hbm] at HM0
      rw [← hW] at HXM
      rw [← hW, ← hbm]
      have HBM := Lib.hid (show W2.heap.size ≤ bm by rw [hbm]; exact HX3.out.size)
      clear hW hbm hmm HX3
      have hmn : m.length ≤ 9223372036854775807 := by omega
      go_wp2_with fail
      go_loopw [103] (fun iv wr => ∃ k : Nat, iv = .int .i64 (k : Int) ∧ k ≤ m.length ∧ MapF edV wr bm (setM (m.take k)) ∧ Ext W2 wr) (fun iv _ => m.length - (intOf iv).toNat)
      case atStart => exact ⟨0, rfl, Nat.zero_le _, HM0.out.cong (fun q => by simp [setM]), HXM.out⟩
      case round =>
        obtain ⟨k, rfl, hk, hmf, hx⟩ := hrel
        have HMF := Lib.hid hmf
        have HXR := Lib.hid hx
        clear hmf hx
        by_cases hlt : k < m.length
        · obtain ⟨p, hp⟩ : ∃ p, m[k]? = some p := ⟨_, List.getElem?_eq_getElem hlt⟩
          obtain ⟨bq, oq, rfl, hbq, hra⟩ := ed_row (HS2.out.ext HXR.out) hp
          have HRP := Lib.hid hra
          have HT := Lib.hid (take_snocR hp)
          clear hra hp
          go_upto_region 16 with (first
            | (with_reducible refine wpList_load_mid rfl 29 (.tmp 105) rfl bq (oq + k * 17) rfl p.cells _ HRP.out Tryz.underlying29 rfl (by kernel_rfl) ?_)
            | (refine wpList_store_blk 29 (.tmp 16) (.tmp 106) rfl rfl (Arr.new wr 29 [.int .i64 0, .int .i64 0, .int .i64 0, .int .i64 0, .int .i64 0, .int .i64 0, .int .i64 0, .int .i64 0, .int .i64 0, .int .i64 0, .int .i64 0, .int .i64 0, .int .i64 0, .int .i64 0, .int .i64 0, .int .i64 0, .int .i64 0]) p.cells rfl rfl (by kernel_rfl) rfl rfl ?_))
          have hB := (Arr.new wr 29 [.int .i64 0, .int .i64 0, .int .i64 0, .int .i64 0, .int .i64 0, .int .i64 0, .int .i64 0, .int .i64 0, .int .i64 0, .int .i64 0, .int .i64 0, .int .i64 0, .int .i64 0, .int .i64 0, .int .i64 0, .int .i64 0, .int .i64 0]).setRow p.cells
          have hx1 : Ext wr ((wr.alloc (.cells ([.int .i64 0, .int .i64 0, .int .i64 0, .int .i64 0, .int .i64 0, .int .i64 0, .int .i64 0, .int .i64 0, .int .i64 0, .int .i64 0, .int .i64 0, .int .i64 0, .int .i64 0, .int .i64 0, .int .i64 0, .int .i64 0, .int .i64 0] : List Value).toArray 29)).setRow wr.heap.size p.cells.toArray) := ((Ext.refl wr).alloc _).setRow (Nat.le_refl _) _
          obtain ⟨b7, hb7⟩ : ∃ b7, b7 = wr.heap.size := ⟨_, rfl⟩
          obtain ⟨W6, hW⟩ : ∃ W, W = (wr.alloc (.cells ([.int .i64 0, .int .i64 0, .int .i64 0, .int .i64 0, .int .i64 0, .int .i64 0, .int .i64 0, .int .i64 0, .int .i64 0, .int .i64 0, .int .i64 0, .int .i64 0, .int .i64 0, .int .i64 0, .int .i64 0, .int .i64 0, .int .i64 0] : List Value).toArray 29)).setRow wr.heap.size p.cells.toArray := ⟨_, rfl⟩
          have hW' : W6 = (wr.alloc (.cells #[.int .i64 0, .int .i64 0, .int .i64 0, .int .i64 0, .int .i64 0, .int .i64 0, .int .i64 0, .int .i64 0, .int .i64 0, .int .i64 0, .int .i64 0, .int .i64 0, .int .i64 0, .int .i64 0, .int .i64 0, .int .i64 0, .int .i64 0] 29)).setRow wr.heap.size p.cells.toArray := hW
          rw [← hW, ← hb7] at hB
          rw [← hW] at hx1
          rw [← hW', ← hb7]
          have HB7 := Lib.hid hB; replace HMF := Lib.hid (HMF.out.ext hx1); replace HXR := Lib.hid (HXR.out.trans hx1)
          clear hW hW' hb7 hB HRP
          go_wp2_with (first
            | (refine wpList_load_blk 29 (.tmp 16) rfl rfl HB7.out rfl _ Tryz.underlying29 rfl (by kernel_rfl) ?_)
            | (refine wpList_mapUpdate_F rfl (.tmp 107) (.tmp 108) (.const (.bool true)) rfl HMF.out ktEd Tryz.underlying53 p (.bool true) rfl rfl rfl ?_; intro W8 hm8 hg8))
          have HM8 := Lib.hid (hm8.cong (m' := setM (m.take (k + 1))) (fun q => by rw [HT.out]; exact setM_snoc _ _ _))
          have HX8 := Lib.hid (HXR.out.grown hg8 (fun k hk => by injection hk with hk; have := HBM.out; omega))
          clear hm8 hg8
          go_roundw
          case rel => exact ⟨k + 1, by go_num, by omega, HM8.out, HX8.out⟩
          case measure => simp [intOf]; omega
        · obtain rfl : k = m.length := by omega
          have HMF2 := Lib.hid (show MapF edV wr bm (setM m) by have h := HMF.out; rw [List.take_length] at h; exact h)
          have HX4 := Lib.hid HXR.out
          clear HMF HXR hlt hk
          go_upto_region 19 with fail
          obtain ⟨W4, hW4⟩ : ∃ W, W = wr := ⟨_, rfl⟩
          rw [← hW4] at HMF2 HX4
          rw [← hW4]
          clear hW4
          have hlw : IntKind.i64.wrap ((l.length : Int) - 1) = (l.length : Int) - 1 := by rw [IntKind.wrap_i64]; omega
          go_wp2_with fail
          clear hlw
          go_loopw [17, 18] (fun ov iv wr => ∃ q : Nat, iv = .int .i64 ((q : Int) - 1) ∧ q ≤ l.length ∧ wr.ownsRow W2.heap.size 29 17 ov (l.length - q) (rowsE (l.drop q).reverse).flatten ∧ MapF edV wr bm (setM m) ∧ Ext W2 wr) (fun _ iv _ => (intOf iv + 1).toNat)
          case atStart => exact ⟨l.length, rfl, Nat.le_refl _, by rw [Nat.sub_self, List.drop_length]; exact World.ownsRow_nil _ _ _ _, HMF2.out, HX4.out⟩
          case round =>
            obtain ⟨q, rfl, hq, ho, hmf, hx⟩ := hrel
            have HO := Lib.hid ho
            have HMF := Lib.hid hmf
            have HXR := Lib.hid hx
            obtain ⟨A7, c7, rfl, _⟩ := own_form ho
            clear ho hmf hx
            rcases q with _ | p
            · have h0 : ¬ (0 ≤ ((0 : Nat) : Int) - 1) := by omega
              generalize ((0 : Nat) : Int) - 1 = zz at h0 ⊢
              have HOB := Lib.hid (show wr.ownsRow W2.heap.size 29 17 (.slice A7 l.length c7) l.length (rowsE l.reverse).flatten from HO.out)
              have HX5 := Lib.hid HXR.out
              have HM5 := Lib.hid HMF.out
              clear HO HXR HMF
              simp only [Nat.sub_zero]
              go_upto_region 25 with fail
              obtain ⟨W5, hW5⟩ : ∃ W, W = wr := ⟨_, rfl⟩
              rw [← hW5] at HOB HX5 HM5
              rw [← hW5]
              clear hW5 h0
              have hln : l.length ≤ 9223372036854775807 := by omega
              go_wp2_with fail
              go_loopw [133] (fun iv wr => ∃ k : Nat, iv = .int .i64 (k : Int) ∧ k ≤ l.length ∧ MapF edV wr bm (offM m (l.take k)) ∧ wr.ownsRow W2.heap.size 29 17 (.slice A7 l.length c7) l.length (rowsE l.reverse).flatten ∧ Ext W2 wr) (fun iv _ => l.length - (intOf iv).toNat)
              case atStart => exact ⟨0, rfl, Nat.zero_le _, HM5.out.cong (fun q => by simp [offM]), HOB.out, HX5.out⟩
              case round =>
                obtain ⟨k, rfl, hk, hmf, hsb, hx⟩ := hrel
                have HMF := Lib.hid hmf
                have HSR := Lib.hid hsb
                have HXR := Lib.hid hx
                clear hmf hx hsb
                by_cases hlt : k < l.length
                · obtain ⟨p, hp⟩ : ∃ p, l[k]? = some p := ⟨_, List.getElem?_eq_getElem hlt⟩
                  obtain ⟨bq, oq, rfl, hbq, hra⟩ := ed_row (HS.out.ext (HX2.out.trans HXR.out)) hp
                  have HRP := Lib.hid hra
                  have HT := Lib.hid (take_snocR hp)
                  clear hra hp
                  go_upto_region 28 with (first
                    | (with_reducible refine wpList_load_mid rfl 29 (.tmp 135) rfl bq (oq + k * 17) rfl p.cells _ HRP.out Tryz.underlying29 rfl (by kernel_rfl) ?_)
                    | (refine wpList_store_blk 29 (.tmp 20) (.tmp 136) rfl rfl (Arr.new wr 29 [.int .i64 0, .int .i64 0, .int .i64 0, .int .i64 0, .int .i64 0, .int .i64 0, .int .i64 0, .int .i64 0, .int .i64 0, .int .i64 0, .int .i64 0, .int .i64 0, .int .i64 0, .int .i64 0, .int .i64 0, .int .i64 0, .int .i64 0]) p.cells rfl rfl (by kernel_rfl) rfl rfl ?_))
                  have hB := (Arr.new wr 29 [.int .i64 0, .int .i64 0, .int .i64 0, .int .i64 0, .int .i64 0, .int .i64 0, .int .i64 0, .int .i64 0, .int .i64 0, .int .i64 0, .int .i64 0, .int .i64 0, .int .i64 0, .int .i64 0, .int .i64 0, .int .i64 0, .int .i64 0]).setRow p.cells
                  have hx1 : Ext wr ((wr.alloc (.cells ([.int .i64 0, .int .i64 0, .int .i64 0, .int .i64 0, .int .i64 0, .int .i64 0, .int .i64 0, .int .i64 0, .int .i64 0, .int .i64 0, .int .i64 0, .int .i64 0, .int .i64 0, .int .i64 0, .int .i64 0, .int .i64 0, .int .i64 0] : List Value).toArray 29)).setRow wr.heap.size p.cells.toArray) := ((Ext.refl wr).alloc _).setRow (Nat.le_refl _) _
                  obtain ⟨b7, hb7⟩ : ∃ b7, b7 = wr.heap.size := ⟨_, rfl⟩
                  obtain ⟨W6, hW⟩ : ∃ W, W = (wr.alloc (.cells ([.int .i64 0, .int .i64 0, .int .i64 0, .int .i64 0, .int .i64 0, .int .i64 0, .int .i64 0, .int .i64 0, .int .i64 0, .int .i64 0, .int .i64 0, .int .i64 0, .int .i64 0, .int .i64 0, .int .i64 0, .int .i64 0, .int .i64 0] : List Value).toArray 29)).setRow wr.heap.size p.cells.toArray := ⟨_, rfl⟩
                  have hW' : W6 = (wr.alloc (.cells #[.int .i64 0, .int .i64 0, .int .i64 0, .int .i64 0, .int .i64 0, .int .i64 0, .int .i64 0, .int .i64 0, .int .i64 0, .int .i64 0, .int .i64 0, .int .i64 0, .int .i64 0, .int .i64 0, .int .i64 0, .int .i64 0, .int .i64 0] 29)).setRow wr.heap.size p.cells.toArray := hW
                  rw [← hW, ← hb7] at hB
                  rw [← hW] at hx1
                  rw [← hW', ← hb7]
                  have HB7 := Lib.hid hB; replace HMF := Lib.hid (HMF.out.ext hx1); replace HXR := Lib.hid (HXR.out.trans hx1)
                  clear hW hW' hb7 hB HRP
                  replace HSR := Lib.hid (own_ext HSR.out hx1)
                  go_wp2_with (first
                    | (refine wpList_load_blk 29 (.tmp 20) rfl rfl HB7.out rfl _ Tryz.underlying29 rfl (by kernel_rfl) ?_)
                    | (refine wpList_delete_F rfl (.tmp 137) (.tmp 138) rfl HMF.out ktEd Tryz.underlying53 p rfl rfl ?_; intro W8 hm8 hg8))
                  have HM8 := Lib.hid (hm8.cong (m' := offM m (l.take (k + 1))) (fun q => by rw [HT.out]; exact offM_snoc _ _ _ _))
                  have HX8 := Lib.hid (HXR.out.grown hg8 (fun k hk => by injection hk with hk; have := HBM.out; omega))
                  have HS8 := Lib.hid (own_keep HSR.out hg8 (fun b hb hbb => map_ne_own HMF.out HSR.out (by rw [hbb, hb])))
                  clear hm8 hg8
                  go_roundw
                  case rel => exact ⟨k + 1, by go_num, by omega, HM8.out, HS8.out, HX8.out⟩
                  case measure => simp [intOf]; omega
                · obtain rfl : k = l.length := by omega
                  have HM6 := Lib.hid (show MapF edV wr bm (fun _ => none) by have h := HMF.out; rw [List.take_length] at h; exact h.cong (offM_all HM.out))
                  have HX6 := Lib.hid HXR.out
                  have HS6 := Lib.hid (own_sv_E HSR.out (List.length_reverse))
                  have hrl : (l.length : Int) = ((l.reverse).length : Int) := by rw [List.length_reverse]
                  clear HMF HXR HSR hlt hk
                  have HSO := Lib.hid (fun (W : World) (hx : Ext wr W) => (show Calls Tryz.prog 22 #[.slice A7 l.length c7] W (RetSE l.reverse W) by have h := SortedEd_any A7 c7 l.reverse W (HS6.out.ext hx) (by rw [List.length_reverse]; omega); rw [List.length_reverse] at h; exact h))
                  have HSM := Lib.hid (fun (W : World) (hx : Ext wr W) => (HS2.out.ext (HX6.out.trans hx)))
                  have hl6 : l.length ≤ 1000000 := by omega
                  clear hrl
                  go_wp2_with (first
                    | (go_at_call 10; refine (sanity_any _ (HR.out.ext (HX2.out.trans HX6.out))).mono ?_; rintro e W7 ⟨rfl, hx⟩; have HX7 := Lib.hid hx; have HM7 := Lib.hid (HM6.out.ext hx); clear hx)
                    | (refine wpList_len_F 143 rfl (.tmp 142) rfl (by rfl) HM7.out Tryz.underlying53 rfl ?_)
                    | (go_at_call 22; refine (HSO.out _ HX7.out).mono ?_; rintro e W8 ⟨m2, v2, hm2, rfl, ho2, hx⟩; obtain ⟨A2, c2, rfl, hs3⟩ := own_svE ho2; have HX8 := Lib.hid (HX7.out.trans hx); have HS3 := Lib.hid hs3; have HM2 := Lib.hid hm2.rev; clear ho2 hs3 hm2 hx)
                    | (go_at_call 21; refine (sameE_true l m2 m HM2.out HM.out A2 A1 c2 c1 _ HS3.out (HSM.out _ HX8.out) hl6).mono ?_; rintro e W9 ⟨rfl, hx⟩; have HX9 := Lib.hid (HX8.out.trans hx); clear hx))
                  go_ret
                  exact ⟨rfl, HX2.out.trans (HX6.out.trans HX9.out)⟩
            · have hpe : ((p + 1 : Nat) : Int) - 1 = (p : Int) := by omega
              rw [hpe]
              have hp0 : 0 ≤ (p : Int) := by omega
              have hpl : p < l.length := by omega
              have hp1 : ¬ ((l.length : Int) ≤ (p : Int)) := by omega
              have hwp : IntKind.i64.wrap ((p : Int) - 1) = (p : Int) - 1 := by rw [IntKind.wrap_i64]; omega
              obtain ⟨x, hx⟩ : ∃ x, l[p]? = some x := ⟨_, List.getElem?_eq_getElem hpl⟩
              obtain ⟨bq, oq, rfl, hbq, hra⟩ := ed_row (HS.out.ext (HX2.out.trans HXR.out)) hx
              have HRP := Lib.hid hra
              have HDR := Lib.hid (drop_rev hx)
              have HIN := Lib.hid (show setM m x = some (.bool true) by unfold setM; rw [if_pos ((HM.out.mem x).2 (List.mem_of_getElem? hx))])
              have HU := Lib.hid (show (if false = true then Value.tuple #[(setM m x).getD (.bool false), .bool (setM m x).isSome] else (setM m x).getD (.bool false)) = .bool true by rw [HIN.out]; rfl)
              have HPE := Lib.hid hpe
              clear hra hx hpe
              go_upto_region 24 with (first
                | (with_reducible refine wpList_load_mid rfl 29 (.tmp 120) rfl bq (oq + p * 17) rfl x.cells _ HRP.out Tryz.underlying29 rfl (by kernel_rfl) ?_)
                | (refine wpList_lookup_F rfl (.tmp 117) (.tmp 121) false rfl HMF.out ktEd Tryz.underlying53 (zeroBoolV _) x _ rfl rfl HU.out ?_))
              have hx6 : Ext wr (wr.alloc (.cells x.cells.toArray 29)) := (Ext.refl _).alloc _
              have HSN := Lib.hid (svE_one wr x)
              have HO6 := Lib.hid (own_ext HO.out hx6)
              have HM6 := Lib.hid (HMF.out.ext hx6)
              have HX6 := Lib.hid (HXR.out.trans hx6)
              have hrl : (l.drop (p + 1)).reverse.length = l.length - (p + 1) := by rw [List.length_reverse, List.length_drop]
              have HRL := Lib.hid hrl
              have htt : l.length - (p + 1) + 1 = l.length - p := by omega
              have HTT := Lib.hid htt
              clear hx6 hrl htt
              have hsm : l.length - (p + 1) + 1 ≤ 100000 := by omega
              have HSMX := Lib.hid hsm
              clear hsm
              go_upto_region 21 with (first
                | (with_reducible refine wpList_load_mid rfl 29 (.tmp 127) rfl bq (oq + p * 17) rfl x.cells _ HRP.out Tryz.underlying29 rfl (by kernel_rfl) ?_)
                | (refine wpList_buildRow rfl 35 29 128 rfl 17 (by decide) (by decide) x.cells rfl rfl Tryz.underlying35 (by kernel_rfl) (by kernel_rfl) ?_)
                | (at_builtin; refine wpList_append_E rfl (.tmp 124) (.tmp 129) rfl W2.heap.size _ ((l.drop (p + 1)).reverse) rfl (l.length - (p + 1)) HRL.out HO6.out _ 1 1 [x] rfl rfl HSN.out (l.length - p) HTT.out HSMX.out HX6.out.size ?_; intro A8 c8 W8 ho8 hg8))
              have HO8 := Lib.hid (show W8.ownsRow W2.heap.size 29 17 (.slice A8 (l.length - p) c8) (l.length - p) (rowsE (l.drop p).reverse).flatten by rw [HDR.out]; exact ho8)
              have HM8 := Lib.hid (HM6.out.kept hg8 (fun e => map_ne_own HM6.out HO6.out e))
              have HX8 := Lib.hid (HX6.out.own HO6.out hg8 (Nat.le_refl _))
              clear ho8 hg8
              go_wp2_with fail
              go_roundw
              case rel => exact ⟨p, rfl, by omega, HO8.out, HM8.out, HX8.out⟩
              case measure => simp [intOf]; try omega
end Go.Proofs.YtlinhgannajfpaaGreatDoor

/- EditOrder: for every input the law returns true, and each argument reads as it did. No condition. -/
namespace Go.Proofs.YtlinhgannajfpaaGreatDoor
open Go Go.RowKit Go.ChangeShapes Go.WideShapes Go.ChangeAt

set_option maxHeartbeats 1600000 in
set_option maxRecDepth 100000 in
theorem editOrder_lifted (os : Os) (started : os.Started) (H : Type) (enc : TypeId × Value → H) :
    ReturnsInHanded {} Tryz.checked os 7 .any (fun w args => (Rows.editOrderSpec.pre enc Tryz.prog Tryz.f7 Rows.editOrderRow.domain false w args ∧ laidMetH Tryz.prog laidL w) ∧ sizedMet enc Tryz.prog Tryz.f7 (OpenSpec.ofChange Rows.editOrderSpec) false w args) (Rows.editOrderSpec.post enc Tryz.prog Tryz.f7 false true false false) := by
  refine returnsInHanded_of_change_and (C := Tryz.checked) (X := fun w _ => laidMetH Tryz.prog laidL w) (fun _ _ _ hh h => h.of_heap hh) own_ started (by kernel_rfl) Tryz.func7
    (ChangeSpec.witness_shaped (enc := enc) (C := Tryz.checked) (os := os) (X := fun w _ => laidMetH Tryz.prog laidL w) false (World.laidAll Tryz.prog os laidL) #[.agg #[.int .i64 0, .int .i64 0, .int .i64 0, .int .i64 0, .int .i64 0, .int .i64 0, .int .i64 0, .int .i64 0, .int .i64 0, .int .i64 0, .int .i64 0, .int .i64 0, .int .i64 0, .int .i64 0, .int .i64 0, .int .i64 0, .int .i64 0], .agg #[.int .i64 0, .int .i64 0, .int .i64 0, .int .i64 0, .int .i64 0, .int .i64 0, .int .i64 0, .int .i64 0, .int .i64 0, .int .i64 0, .int .i64 0, .int .i64 0, .int .i64 0, .int .i64 0, .int .i64 0, .int .i64 0, .int .i64 0], .agg #[.int .i64 0, .int .i64 0, .int .i64 0, .int .i64 0, .int .i64 0, .int .i64 0, .int .i64 0, .int .i64 0, .int .i64 0, .int .i64 0, .int .i64 0, .int .i64 0, .int .i64 0, .int .i64 0, .int .i64 0, .int .i64 0, .int .i64 0], .slice none 0 0] 8 (World.laidAll_os _ _ _) (World.shaped_of_ZipB (by kernel_rfl) (by kernel_rfl)) (by kernel_rfl) (by kernel_rfl) (by kernel_rfl)
      (by rw [MakeChecks.laidMetH_plain _ _ _ (by kernel_rfl)]; exact laidMet_laidAll _ (by kernel_rfl) (by kernel_rfl))) ?_
  intro W base args ds gs before hval0 hW hcnd _ hLd _
  have hval : ∀ (j : Nat) t v, Tryz.f7.params[j]? = some t → args[j]? = some v → Value.okWide Tryz.prog W .any base t v := hval0
  have hLd := laid_of hLd
  have hW' := hW
  obtain ⟨p, q, hA0, hV, rfl, hfz, hnd⟩ := hW
  have hA : DataW.TrodAll enc Tryz.prog W 0 (fun _ => true) true Tryz.f7.params.toList args.toList ds p := hA0
  have hAll := hA
  rw [Tryz.params7] at hA hval
  obtain ⟨v0, vs0, d0, ds0, p0, q0, ha, rfl, rfl, h0, r0⟩ := trodAll_cons hA
  obtain ⟨v1, vs1, d1, ds1, p1, q1, rfl, rfl, rfl, h1, r1⟩ := trodAll_cons r0
  obtain ⟨v2, vs2, d2, ds2, p2, q2, rfl, rfl, rfl, h2, r2⟩ := trodAll_cons r1
  obtain ⟨v3, vs3, d3, ds3, p3, q3, rfl, rfl, rfl, h3, r3⟩ := trodAll_cons r2
  obtain ⟨rfl, rfl, rfl⟩ := trodAll_nil r3
  obtain ⟨rfl, rfl⟩ := trodVars_none hV
  have hargs : args = #[v0, v1, v2, v3] := by apply Array.ext'; exact ha
  subst hargs
  obtain ⟨x, rfl, hfx⟩ := read_Ed (hval 0 _ _ rfl rfl) h0
  obtain ⟨y, rfl, hfy⟩ := read_Ed (hval 1 _ _ rfl rfl) h1
  obtain ⟨z, rfl, hfz⟩ := read_Ed (hval 2 _ _ rfl rfl) h2
  obtain ⟨A, c, l, rfl, hs, hfl⟩ := read_Eds (hval 3 _ _ rfl rfl) h3
  refine (EditOrder_any x y z l A c W hs hLd).mono fun e W' ⟨he, hx⟩ => ?_
  subst he
  have hlt : ∀ x, x ∈ (p0 ++ (p1 ++ (p2 ++ (p3 ++ [])))) → x.block < W.heap.size := fun x hx2 => hW'.lt x (by simpa using hx2)
  exact ⟨_, rfl, _, _, _, [], _, [], hW', trodAll_mk1 (shut_bool Tryz.underlying4 true), args_below laidOut_ _ _ _ _ W' (by rw [Tryz.params7]; intro t ht; simp at ht; rcases ht with rfl | rfl <;> exact ⟨by kernel_rfl, of_decide_eq_true (by kernel_rfl)⟩) hAll hx.below hlt, rfl, hx.below.frame _, fun h => by cases h⟩

theorem editOrder_row : Rows.EditOrderSaid :=
  OpenClaim.holds_of_wide 7 Tryz.f7 rfl rfl rfl rfl rfl rfl rfl ⟨rfl, rfl, rfl, rfl, rfl⟩ rfl rfl rfl rfl rfl (by kernel_rfl) Tryz.func7 (by kernel_rfl)
    (of_decide_eq_true (by kernel_rfl)) (by unfold Func.isWrapper; rw [if_neg (of_decide_eq_false (by kernel_rfl))]; exact ⟨rfl, rfl⟩)
    (fun os started H enc _ => editOrder_lifted os started H enc)

theorem editOrder_holds : Rows.EditOrderCardSaid :=
  Claim7.holds_tied_plain_at .later [] [.data, .data, .data, .data] true Rows.editOrderCard.stood.harness false
    editOrder_row (fun _ h => by cases h) (by kernel_rfl) (fun _ h => by cases h) editOrder_row_tie rfl ⟨rfl, rfl⟩ (by kernel_rfl) rfl
    (fun f fn hf hfn => by
      obtain rfl : f = 7 := Option.some.inj ((show Tryz.prog.funcNamed "voxel/voxellaw25.EditOrder" = some 7 by kernel_rfl).symm.trans hf) |>.symm
      obtain rfl : fn = Tryz.f7 := (Option.some.inj (Tryz.func7.symm.trans hfn)).symm
      exact ⟨by kernel_rfl, fun j t ht => by
        rw [Tryz.params7] at ht
        have hm : t ∈ [29, 29, 29, 35] := by simpa using Array.mem_of_getElem? ht
        have hall : ([29, 29, 29, 35].all fun u => !Tryz.prog.wantsStandIn u) = true := by kernel_rfl
        exact (show Tryz.prog.wantsStandIn t = false by simpa using List.all_eq_true.1 hall t hm)⟩)
    (by kernel_rfl)
end Go.Proofs.YtlinhgannajfpaaGreatDoor
